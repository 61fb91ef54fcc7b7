import PyProof.Rows.All
import Wide.All
import OpenK.AllK
import Wide.FinOn
import HandS.ForMost
import HandS.Walk
import HandS.Deep
import HandS.Evl
import HandS.ExcOwn
import HandS.WordsExc
import HandS.CallSlots
import HandS.TupAny
import HandS.Style
import HandS.IsInst
import KE.DataCmp
import HandS.StrMore
import HandS.Replace
import HandS.Zip
import HandS.More
import HandS.ExcInit
import HandS.ExcField
import HandS.TryOnly
import HandS.Defaults
import HandS.ClsMeth
import HandS.ExcIs
import KE.KExcIs
import PySem.Challenge.RW_talkalike_k26_normal_form_is_one
set_option Elab.async false
set_option linter.all false
set_option maxRecDepth 100000
set_option maxHeartbeats 2000000
set_option autoImplicit false

/-! # A denotational layer over HandS: what an expression, a statement, a def computes, as a plain Lean function on data (no heap, no addresses); shown sound once, rule by rule -/
namespace Dn
open PySem L2
open Evl (Ex)

/-! ## 1. Data -/
inductive D where
  | non | bl (b : Bool) | int (i : Int) | str (s : Str) | lst (xs : List D) | tup (xs : List D) | scr (ns : List Int)
  /-- any value: nothing is known of it -/
  | opq
  /-- a dict: its keys and values in order -/
  | dct (ks : List L2.Key) (xs : List D)
  /-- an instance of the program's class c: its attributes in order -/
  | ins (c : Str) (ns : List Str) (xs : List D)
/-- an error: its class's name, and what its own fields hold -/
structure Exn where
  cls : Str
  fs : List (Str × D)
/-- what a slot holds: frozen data, a list of its own that may still change, a dict of its own, an error that was caught (at a, its fields at d) -/
inductive O where
  | fr (d : D) | lst (xs : List D) | dct (ks : List L2.Key) (xs : List D) | ins (c : Str) (ns : List Str) (xs : List D) | exn (a d : Addr) (x : Exn)
def O.d : O → D
  | .fr d => d
  | .lst xs => .lst xs
  | .dct ks xs => .dct ks xs
  | .ins c ns xs => .ins c ns xs
  | .exn _ _ _ => .opq
@[simp] theorem O.d_fr (d : D) : (O.fr d).d = d := rfl
@[simp] theorem O.d_lst (xs : List D) : (O.lst xs).d = .lst xs := rfl
@[simp] theorem O.d_dct (ks : List L2.Key) (xs : List D) : (O.dct ks xs).d = .dct ks xs := rfl
@[simp] theorem O.d_ins (c : Str) (ns : List Str) (xs : List D) : (O.ins c ns xs).d = .ins c ns xs := rfl
/-- the program's class c stands at C -/
def ClsN (K : PySem.W.Frag) (c : Str) (C : Addr) : Prop := PySem.W.nsIn K mainGlobals c = some (some (.ref C))

mutual
inductive Rep (K : PySem.W.Frag) (B : Hp) : V → D → Prop
  | non : Rep K B .non .non
  | bl (b : Bool) : Rep K B (.bl b) (.bl b)
  | int (i : Int) : Rep K B (.int i) (.int i)
  | str (x : Str) : Rep K B (.str x) (.str x)
  | lst {a : Addr} {xs : List V} {ds : List D} : B a = some (.lst xs) → RepL K B xs ds → Rep K B (.ref a) (.lst ds)
  | tup {a : Addr} {xs : List V} {ds : List D} : SqT K B a xs → RepL K B xs ds → Rep K B (.ref a) (.tup ds)
  | scr {a : Addr} {ns : List Int} : SqL K B a (ns.map V.int) → Rep K B (.ref a) (.scr ns)
  | opq (v : V) : Rep K B v .opq
  | dct {a : Addr} {kv : List (L2.Key × V)} {ks : List L2.Key} {ds : List D} : B a = some (.dK kv) → kv.map (·.1) = ks → RepL K B (kv.map (·.2)) ds → Rep K B (.ref a) (.dct ks ds)
  | ins {a dx C : Addr} {fs : List (Str × V)} {c : Str} {ns : List Str} {ds : List D} : B a = some (.ins C dx fs) → ClsN K c C → fs.map (·.1) = ns → RepL K B (fs.map (·.2)) ds → Rep K B (.ref a) (.ins c ns ds)
inductive RepL (K : PySem.W.Frag) (B : Hp) : List V → List D → Prop
  | nil : RepL K B [] []
  | cons {v : V} {vs : List V} {d : D} {ds : List D} : Rep K B v d → RepL K B vs ds → RepL K B (v :: vs) (d :: ds)
end

section
variable {K : PySem.W.Frag} {B B' H H' : Hp} {v : V} {d : D} {vs : List V} {ds : List D}
mutual
theorem Rep.mono (e : Ex B B') : ∀ {v : V} {d : D}, Rep K B v d → Rep K B' v d
  | _, _, .non => .non
  | _, _, .bl b => .bl b
  | _, _, .int i => .int i
  | _, _, .str x => .str x
  | _, _, .opq v => .opq v
  | _, _, .dct h hk hs => .dct (e _ _ h) hk (RepL.mono e hs)
  | _, _, .ins h hc hk hs => .ins (e _ _ h) hc hk (RepL.mono e hs)
  | _, _, .lst h hs => .lst (e _ _ h) (RepL.mono e hs)
  | _, _, .scr h => .scr (Evl.ex_l e h)
  | _, _, .tup h hs => .tup (Evl.ex_t e h) (RepL.mono e hs)
theorem RepL.mono (e : Ex B B') : ∀ {vs : List V} {ds : List D}, RepL K B vs ds → RepL K B' vs ds
  | _, _, .nil => .nil
  | _, _, .cons h hs => .cons (Rep.mono e h) (RepL.mono e hs)
end
theorem RepL.length : ∀ {vs : List V} {ds : List D}, RepL K B vs ds → vs.length = ds.length
  | _, _, .nil => rfl
  | _, _, .cons _ hs => by rw [List.length_cons, List.length_cons, hs.length]
theorem RepL.get : ∀ {vs : List V} {ds : List D} {i : Nat} {d : D}, RepL K B vs ds → ds[i]? = some d → ∃ v, vs[i]? = some v ∧ Rep K B v d
  | _, _, _, _, .nil, e => by simp at e
  | _, _, 0, _, .cons h _, e => by simp at e; subst e; exact ⟨_, rfl, h⟩
  | _, _, i + 1, d, .cons _ hs, e => by
    obtain ⟨v, e1, e2⟩ := RepL.get (i := i) (d := d) hs (by simpa using e)
    exact ⟨v, by simpa using e1, e2⟩
theorem RepL.get' : ∀ {vs : List V} {ds : List D} {i : Nat} {v : V}, RepL K B vs ds → vs[i]? = some v → ∃ d, ds[i]? = some d ∧ Rep K B v d
  | _, _, _, _, .nil, e => by simp at e
  | _, _, 0, _, .cons h _, e => by simp at e; subst e; exact ⟨_, rfl, h⟩
  | _, _, i + 1, v, .cons _ hs, e => by
    obtain ⟨d, e1, e2⟩ := RepL.get' (i := i) (v := v) hs (by simpa using e)
    exact ⟨d, by simpa using e1, e2⟩
theorem RepL.append : ∀ {vs ws : List V} {ds es : List D}, RepL K B vs ds → RepL K B ws es → RepL K B (vs ++ ws) (ds ++ es)
  | _, _, _, _, .nil, h => h
  | _, _, _, _, .cons h hs, k => .cons h (RepL.append hs k)
theorem RepL.take : ∀ {vs : List V} {ds : List D} (n : Nat), RepL K B vs ds → RepL K B (vs.take n) (ds.take n)
  | _, _, 0, _ => .nil
  | _, _, _ + 1, .nil => .nil
  | _, _, n + 1, .cons h hs => .cons h (RepL.take n hs)
theorem RepL.drop : ∀ {vs : List V} {ds : List D} (n : Nat), RepL K B vs ds → RepL K B (vs.drop n) (ds.drop n)
  | _, _, 0, h => h
  | _, _, _ + 1, .nil => .nil
  | _, _, n + 1, .cons _ hs => RepL.drop n hs
theorem RepL.set : ∀ {vs : List V} {ds : List D} (n : Nat) {v : V} {d : D}, RepL K B vs ds → Rep K B v d → RepL K B (vs.set n v) (ds.set n d)
  | _, _, _, _, _, .nil, _ => .nil
  | _, _, 0, _, _, .cons _ hs, k => .cons k hs
  | _, _, n + 1, _, _, .cons h hs, k => .cons h (RepL.set n hs k)
theorem RepL.erase : ∀ {vs : List V} {ds : List D} (n : Nat), RepL K B vs ds → RepL K B (vs.eraseIdx n) (ds.eraseIdx n)
  | _, _, _, .nil => .nil
  | _, _, 0, .cons _ hs => hs
  | _, _, n + 1, .cons h hs => .cons h (RepL.erase n hs)
theorem RepL.reverse {vs : List V} {ds : List D} (h : RepL K B vs ds) : RepL K B vs.reverse ds.reverse := by
  induction ds generalizing vs with
  | nil => cases h; exact .nil
  | cons d ds ih =>
    cases h with
    | cons h hs =>
      rw [List.reverse_cons, List.reverse_cons]
      exact (ih hs).append (.cons h .nil)
theorem RepL.one (h : Rep K B v d) : RepL K B [v] [d] := .cons h .nil

theorem repL_ints : ∀ ns : List Int, RepL K B (ns.map V.int) (ns.map D.int)
  | [] => .nil
  | n :: ns => .cons (.int n) (repL_ints ns)
theorem repL_strs : ∀ ns : List Str, RepL K B (ns.map V.str) (ns.map D.str)
  | [] => .nil
  | n :: ns => .cons (.str n) (repL_strs ns)
theorem repL_of_ints : ∀ {vs : List V} {ns : List Int}, RepL K B vs (ns.map D.int) → vs = ns.map V.int
  | _, [], .nil => rfl
  | _, n :: ns, .cons h hs => by
    cases h
    rw [repL_of_ints hs]; rfl
theorem repL_of_strs : ∀ {vs : List V} {ns : List Str}, RepL K B vs (ns.map D.str) → vs = ns.map V.str
  | _, [], .nil => rfl
  | _, n :: ns, .cons h hs => by
    cases h
    rw [repL_of_strs hs]; rfl
theorem repL_of_bools : ∀ {vs : List V} {ns : List Bool}, RepL K B vs (ns.map D.bl) → vs = ns.map V.bl
  | _, [], .nil => rfl
  | _, n :: ns, .cons h hs => by
    cases h
    rw [repL_of_bools hs]; rfl
end

/-! ## 2. Slots, states, growth -/
abbrev Sl := List (Option O)
inductive Ro (α : Type) where
  | ok (a : α) (e : Sl) | ex (x : Exn) (e : Sl)
abbrev M (α : Type) := Sl → Option (Ro α)
@[inline] def M.pure {α : Type} (a : α) : M α := fun e => some (.ok a e)
@[inline] def M.bind {α β : Type} (m : M α) (f : α → M β) : M β := fun e => match m e with
  | none => none
  | some (.ex x e') => some (.ex x e')
  | some (.ok a e') => f a e'
@[inline] def M.stuck {α : Type} : M α := fun _ => none

/-- what an error's own fields hold -/
def XF (K : PySem.W.Frag) (B : Hp) (fs : List (Str × V)) (gs : List (Str × D)) : Prop := Paired (fun (p : Str × V) (q : Str × D) => p.1 = q.1 ∧ Rep K B p.2 q.2) fs gs
theorem XF.mono {K : PySem.W.Frag} {B B' : Hp} {fs : List (Str × V)} {gs : List (Str × D)} (h : XF K B fs gs) (e : Ex B B') : XF K B' fs gs := Paired.mapP h fun _ _ z => ⟨z.1, z.2.mono e⟩
/-- v stands for o; S: the addresses of its own -/
def RepO (K : PySem.W.Frag) (B H : Hp) (v : V) : O → (Addr → Prop) → Prop
  | .fr d, S => Rep K B v d ∧ ∀ a, ¬ S a
  | .lst ds, S => ∃ p xs, v = .ref p ∧ H p = some (.lst xs) ∧ RepL K B xs ds ∧ ∀ a, S a ↔ a = p
  | .dct ks xs, S => ∃ p kv, v = .ref p ∧ H p = some (.dK kv) ∧ kv.map (·.1) = ks ∧ RepL K B (kv.map (·.2)) xs ∧ ∀ a, S a ↔ a = p
  | .ins c ns xs, S => ∃ p C dx fs, v = .ref p ∧ H p = some (.ins C dx fs) ∧ ClsN K c C ∧ fs.map (·.1) = ns ∧ RepL K B (fs.map (·.2)) xs ∧ ∀ a, S a ↔ a = p
  | .exn a d x, S => v = .ref a ∧ (∃ fs, B d = some (.xd fs) ∧ XF K B fs x.fs) ∧ ∀ a, ¬ S a
/-- the addresses of one's own: live, not frozen -/
def Own (B H : Hp) (S : Addr → Prop) : Prop := ∀ a, S a → B a = none ∧ ∃ o, H a = some o

structure Rp (K : PySem.W.Frag) (B H : Hp) (σ : St) (e : Sl) (S : Nat → Addr → Prop) : Prop where
  len : σ.length = e.length
  ex : Ex B H
  rep : ∀ i o, e[i]? = some (some o) → ∃ v, σ[i]? = some (some v) ∧ RepO K B H v o (S i)
  dis : ∀ i j a, S i a → S j a → i = j
  own : ∀ i, Own B H (S i)
def tot (S : Nat → Addr → Prop) : Addr → Prop := fun a => ∃ i, S i a
/-- from (B, H) with the own addresses S to (B', H') with S' -/
structure Fr (B H : Hp) (S : Addr → Prop) (B' H' : Hp) (S' : Addr → Prop) : Prop where
  b : Ex B B'
  k : ∀ a o, H a = some o → ¬ S a → H' a = some o
  n : ∀ a, S' a → S a ∨ H a = none
  c : ∀ a o, B' a = some o → B a = some o ∨ S a ∨ H a = none
  a : ∀ a o, H a = some o → ∃ o', H' a = some o'
def noS : Addr → Prop := fun _ => False

theorem Fr.refl (B H : Hp) (S : Addr → Prop) : Fr B H S B H S := ⟨Ex.refl B, fun _ _ h _ => h, fun _ h => .inl h, fun _ _ h => .inl h, fun _ o h => ⟨o, h⟩⟩
theorem Fr.trans {B H B1 H1 B2 H2 : Hp} {S S1 S2 : Addr → Prop} (f : Fr B H S B1 H1 S1) (g : Fr B1 H1 S1 B2 H2 S2) : Fr B H S B2 H2 S2 := by
  have nn : ∀ a, H1 a = none → H a = none := fun a h => by
    cases q : H a with
    | none => rfl
    | some o => obtain ⟨o', e⟩ := f.a a o q; rw [h] at e; cases e
  refine ⟨f.b.trans g.b, fun a o h hs => ?_, fun a h => ?_, fun a o h => ?_, fun a o h => ?_⟩
  · refine g.k a o (f.k a o h hs) fun z => ?_
    rcases f.n a z with z | z
    · exact hs z
    · rw [h] at z; cases z
  · rcases g.n a h with z | z
    · exact f.n a z
    · exact .inr (nn a z)
  · rcases g.c a o h with z | z | z
    · exact f.c a o z
    · rcases f.n a z with y | y
      · exact .inr (.inl y)
      · exact .inr (.inr y)
    · exact .inr (.inr (nn a z))
  · obtain ⟨o', e⟩ := f.a a o h
    exact g.a a o' e
/-- what is free behind was free ahead -/
theorem Fr.back {B H B1 H1 : Hp} {S S1 : Addr → Prop} (f : Fr B H S B1 H1 S1) {a : Addr} (h : H1 a = none) : H a = none := by
  cases q : H a with
  | none => rfl
  | some o => obtain ⟨o', e⟩ := f.a a o q; rw [h] at e; cases e
/-- fewer own addresses behind, more ahead -/
theorem Fr.imp {B H B1 H1 : Hp} {S S1 S' S1' : Addr → Prop} (f : Fr B H S B1 H1 S1) (h : ∀ a, S a → S' a) (h1 : ∀ a, S1' a → S1 a) : Fr B H S' B1 H1 S1' :=
  ⟨f.b, fun a o e n => f.k a o e fun z => n (h a z), fun a z => (f.n a (h1 a z)).elim (fun y => .inl (h a y)) .inr, fun a o e => (f.c a o e).elim .inl fun y => .inr (y.elim (fun z => .inl (h a z)) .inr), f.a⟩

section
variable {K : PySem.W.Frag} {B B' H H' : Hp} {v : V} {o : O} {σ : St} {e : Sl} {S S' : Nat → Addr → Prop} {T T' : Addr → Prop}
theorem RepO.frame (h : RepO K B H v o T) (ho : Own B H T) (hd : ∀ a, T a → ¬ T' a) {T2 : Addr → Prop} (f : Fr B H T' B' H' T2) : RepO K B' H' v o T ∧ Own B' H' T ∧ ∀ a, T a → ¬ T2 a := by
  have hk : ∀ a o, T a → H a = some o → H' a = some o := fun a o ht e => f.k a o e (hd a ht)
  refine ⟨?_, fun a ht => ?_, fun a ht z => ?_⟩
  · cases o with
    | fr d => exact ⟨h.1.mono f.b, h.2⟩
    | lst ds =>
      obtain ⟨p, xs, e, hp, hr, hs⟩ := h
      exact ⟨p, xs, e, hk p _ ((hs p).mpr rfl) hp, hr.mono f.b, hs⟩
    | dct kvs =>
      obtain ⟨p, kv, e, hp, hk', hr, hs⟩ := h
      exact ⟨p, kv, e, hk p _ ((hs p).mpr rfl) hp, hk', hr.mono f.b, hs⟩
    | ins c ns xs =>
      obtain ⟨p, C, dx, fs, e, hp, hc, hk', hr, hs⟩ := h
      exact ⟨p, C, dx, fs, e, hk p _ ((hs p).mpr rfl) hp, hc, hk', hr.mono f.b, hs⟩
    | exn a d x =>
      obtain ⟨e, ⟨fs, hd, hx⟩, hs⟩ := h
      exact ⟨e, ⟨fs, f.b _ _ hd, hx.mono f.b⟩, hs⟩
  · obtain ⟨h1, o, h2⟩ := ho a ht
    refine ⟨?_, o, hk a o ht h2⟩
    cases q : B' a with
    | none => rfl
    | some u =>
      rcases f.c a u q with z | z | z
      · rw [h1] at z; cases z
      · exact absurd z (hd a ht)
      · rw [h2] at z; cases z
  · rcases f.n a z with y | y
    · exact hd a ht y
    · obtain ⟨_, o, h2⟩ := ho a ht
      rw [h2] at y; cases y
/-- what a one-way growth does: new objects only -/
structure Gr (B H B' H' : Hp) : Prop where
  b : Ex B B'
  h : Ex H H'
  s : Ex B' H'
  c : ∀ a o, B' a = some o → B a = some o ∨ H a = none
theorem Gr.refl (h : Ex B H) : Gr B H B H := ⟨Ex.refl B, Ex.refl H, h, fun _ _ e => .inl e⟩
theorem Gr.trans {B1 H1 B2 H2 : Hp} (f : Gr B H B1 H1) (g : Gr B1 H1 B2 H2) : Gr B H B2 H2 :=
  ⟨f.b.trans g.b, f.h.trans g.h, g.s, fun a o e => (g.c a o e).elim (fun z => f.c a o z) fun z => .inr (Evl.fresh_back f.h z)⟩
/-- a new frozen object -/
theorem Gr.new (h : Ex B H) {p : Addr} (hp : H p = none) (o : HO) : Gr B H (upd B p o) (upd H p o) := by
  have hb : B p = none := by
    cases q : B p with
    | none => rfl
    | some u => have := h p u q; rw [hp] at this; cases this
  refine ⟨Ex.new hb, Ex.new hp, fun a u e => ?_, fun a u e => ?_⟩
  · by_cases ha : a = p
    · subst ha; rw [upd_same] at e ⊢; exact e
    · rw [upd_ne ha] at e ⊢; exact h a u e
  · by_cases ha : a = p
    · subst ha; exact .inr hp
    · rw [upd_ne ha] at e; exact .inl e
/-- a new object of one's own -/
theorem Gr.own (h : Ex B H) {p : Addr} (hp : H p = none) (o : HO) : Gr B H B (upd H p o) :=
  ⟨Ex.refl B, Ex.new hp, h.trans (Ex.new hp), fun _ _ e => .inl e⟩
theorem Gr.fr (g : Gr B H B' H') (T : Addr → Prop) : Fr B H T B' H' T :=
  ⟨g.b, fun a o h _ => g.h a o h, fun _ h => .inl h, fun a o h => (g.c a o h).elim .inl fun z => .inr (.inr z), fun a o h => ⟨o, g.h a o h⟩⟩
theorem RepO.grow (h : RepO K B H v o T) (g : Gr B H B' H') : RepO K B' H' v o T := by
  cases o with
  | fr d => exact ⟨h.1.mono g.b, h.2⟩
  | lst ds =>
    obtain ⟨p, xs, e, hp, hr, hs⟩ := h
    exact ⟨p, xs, e, g.h p _ hp, hr.mono g.b, hs⟩
  | dct kvs =>
    obtain ⟨p, kv, e, hp, hk', hr, hs⟩ := h
    exact ⟨p, kv, e, g.h p _ hp, hk', hr.mono g.b, hs⟩
  | ins c ns xs =>
    obtain ⟨p, C, dx, fs, e, hp, hc, hk', hr, hs⟩ := h
    exact ⟨p, C, dx, fs, e, g.h p _ hp, hc, hk', hr.mono g.b, hs⟩
  | exn a d x =>
    obtain ⟨e, ⟨fs, hd, hx⟩, hs⟩ := h
    exact ⟨e, ⟨fs, g.b _ _ hd, hx.mono g.b⟩, hs⟩
theorem Own.grow (h : Own B H T) (g : Gr B H B' H') : Own B' H' T := fun a ha => by
  obtain ⟨h1, o, h2⟩ := h a ha
  refine ⟨?_, o, g.h a o h2⟩
  cases q : B' a with
  | none => rfl
  | some u =>
    rcases g.c a u q with z | z
    · rw [h1] at z; cases z
    · rw [h2] at z; cases z
theorem Rp.grow (h : Rp K B H σ e S) (g : Gr B H B' H') : Rp K B' H' σ e S :=
  ⟨h.len, g.s, fun i o ho => let ⟨v, h1, h2⟩ := h.rep i o ho; ⟨v, h1, h2.grow g⟩, h.dis, fun i => (h.own i).grow g⟩
/-- the same slots, the own addresses of some -/
theorem Rp.mem (h : Rp K B H σ e S) {i : Nat} (hi : e[i]? = some (some o)) : ∃ v, σ[i]? = some (some v) ∧ RepO K B H v o (S i) := h.rep i o hi

/-- a value beside the slots -/
structure Vl (K : PySem.W.Frag) (B H : Hp) (σ : St) (e : Sl) (S : Nat → Addr → Prop) (v : V) (o : O) (T : Addr → Prop) : Prop where
  rp : Rp K B H σ e S
  ro : RepO K B H v o T
  own : Own B H T
  dj : ∀ a, T a → ¬ tot S a
theorem own_no : Own B H noS := fun _ h => h.elim
theorem Vl.fr (h : Rp K B H σ e S) {d : D} (r : Rep K B v d) : Vl K B H σ e S v (.fr d) noS := ⟨h, ⟨r, fun _ z => z⟩, own_no, fun _ z => z.elim⟩

/-- v into slot i -/
theorem Vl.set (h : Vl K B H σ e S v o T) (i : Nat) : Rp K B H (σ.set i (some v)) (e.set i (some o)) (fun j => if j = i then (if i < e.length then T else noS) else S j) := by
  refine ⟨by rw [List.length_set, List.length_set, h.rp.len], h.rp.ex, fun j o' ho => ?_, fun j k a h1 h2 => ?_, fun j a h1 => ?_⟩
  · by_cases hj : j = i
    · subst hj
      have hl : j < e.length := by
        have := (List.getElem?_eq_some_iff.mp ho).1
        rwa [List.length_set] at this
      rw [List.getElem?_set_self hl] at ho
      cases ho
      refine ⟨v, by rw [List.getElem?_set_self (by rw [h.rp.len]; exact hl)], ?_⟩
      simp only [if_pos hl, if_true]
      exact h.ro
    · rw [List.getElem?_set_ne (Ne.symm hj)] at ho
      obtain ⟨w, h1, h2⟩ := h.rp.rep j o' ho
      exact ⟨w, by rw [List.getElem?_set_ne (Ne.symm hj)]; exact h1, by rw [if_neg hj]; exact h2⟩
  · by_cases hj : j = i <;> by_cases hk : k = i
    · rw [hj, hk]
    · simp only [hj, if_true] at h1
      rw [if_neg hk] at h2
      by_cases hl : i < e.length
      · rw [if_pos hl] at h1; exact absurd ⟨k, h2⟩ (h.dj a h1)
      · rw [if_neg hl] at h1; exact h1.elim
    · simp only [hk, if_true] at h2
      rw [if_neg hj] at h1
      by_cases hl : i < e.length
      · rw [if_pos hl] at h2; exact absurd ⟨j, h1⟩ (h.dj a h2)
      · rw [if_neg hl] at h2; exact h2.elim
    · rw [if_neg hj] at h1; rw [if_neg hk] at h2
      exact h.rp.dis j k a h1 h2
  · by_cases hj : j = i
    · simp only [hj, if_true] at h1
      by_cases hl : i < e.length
      · rw [if_pos hl] at h1; exact h.own a h1
      · rw [if_neg hl] at h1; exact h1.elim
    · rw [if_neg hj] at h1; exact h.rp.own j a h1
theorem tot_set {i : Nat} {n : Nat} {a : Addr} (h : tot (fun j => if j = i then (if i < n then T else noS) else S j) a) : T a ∨ tot S a := by
  obtain ⟨j, h⟩ := h
  by_cases hj : j = i
  · simp only [hj, if_true] at h
    by_cases hl : i < n
    · rw [if_pos hl] at h; exact .inl h
    · rw [if_neg hl] at h; exact h.elim
  · rw [if_neg hj] at h; exact .inr ⟨j, h⟩
/-- a slot forgotten -/
theorem Rp.forget (h : Rp K B H σ e S) (i : Nat) : Rp K B H σ (e.set i none) (fun j => if j = i then noS else S j) := by
  refine ⟨by rw [List.length_set]; exact h.len, h.ex, fun j o ho => ?_, fun j k a h1 h2 => ?_, fun j a h1 => ?_⟩
  · by_cases hj : j = i
    · subst hj
      by_cases hl : j < e.length
      · rw [List.getElem?_set_self hl] at ho; cases ho
      · rw [List.getElem?_eq_none (by rw [List.length_set]; omega)] at ho; cases ho
    · rw [List.getElem?_set_ne (Ne.symm hj)] at ho
      obtain ⟨w, h1, h2⟩ := h.rep j o ho
      exact ⟨w, h1, by rw [if_neg hj]; exact h2⟩
  · by_cases hj : j = i
    · rw [if_pos hj] at h1; exact h1.elim
    · by_cases hk : k = i
      · rw [if_pos hk] at h2; exact h2.elim
      · rw [if_neg hj] at h1; rw [if_neg hk] at h2
        exact h.dis j k a h1 h2
  · by_cases hj : j = i
    · rw [if_pos hj] at h1; exact h1.elim
    · rw [if_neg hj] at h1; exact h.own j a h1
theorem tot_forget {i : Nat} {a : Addr} (h : tot (fun j => if j = i then noS else S j) a) : tot S a := by
  obtain ⟨j, h⟩ := h
  by_cases hj : j = i
  · rw [if_pos hj] at h; exact h.elim
  · rw [if_neg hj] at h; exact ⟨j, h⟩

/-- what is one's own is frozen: the heap stays, more of it counts as frozen -/
theorem freeze (h : RepO K B H v o T) (hx : Ex B H) (ho : Own B H T) : ∃ B', Rep K B' v o.d ∧ Ex B B' ∧ Ex B' H ∧ (∀ a u, B' a = some u → B a = some u ∨ T a) ∧ ∀ a, ¬ T a → B' a = B a := by
  cases o with
  | fr d => exact ⟨B, h.1, Ex.refl B, hx, fun a u e => .inl e, fun _ _ => rfl⟩
  | exn a d x => exact ⟨B, .opq v, Ex.refl B, hx, fun a u e => .inl e, fun _ _ => rfl⟩
  | lst ds =>
    obtain ⟨p, xs, e, hp, hr, hs⟩ := h
    have hb : B p = none := (ho p ((hs p).mpr rfl)).1
    refine ⟨upd B p (.lst xs), ?_, Ex.new hb, fun a u q => ?_, fun a u q => ?_, fun a q => upd_ne fun z => q ((hs a).mpr z)⟩
    · subst e
      exact .lst upd_same (hr.mono (Ex.new hb))
    · by_cases ha : a = p
      · subst ha; rw [upd_same] at q; cases q; exact hp
      · rw [upd_ne ha] at q; exact hx a u q
    · by_cases ha : a = p
      · exact .inr ((hs a).mpr ha)
      · rw [upd_ne ha] at q; exact .inl q
  | dct ks ds =>
    obtain ⟨p, kv, e, hp, hk, hr, hs⟩ := h
    have hb : B p = none := (ho p ((hs p).mpr rfl)).1
    refine ⟨upd B p (.dK kv), ?_, Ex.new hb, fun a u q => ?_, fun a u q => ?_, fun a q => upd_ne fun z => q ((hs a).mpr z)⟩
    · subst e
      exact .dct upd_same hk (hr.mono (Ex.new hb))
    · by_cases ha : a = p
      · subst ha; rw [upd_same] at q; cases q; exact hp
      · rw [upd_ne ha] at q; exact hx a u q
    · by_cases ha : a = p
      · exact .inr ((hs a).mpr ha)
      · rw [upd_ne ha] at q; exact .inl q
  | ins c ns ds =>
    obtain ⟨p, C, dx, fs, e, hp, hc, hk, hr, hs⟩ := h
    have hb : B p = none := (ho p ((hs p).mpr rfl)).1
    refine ⟨upd B p (.ins C dx fs), ?_, Ex.new hb, fun a u q => ?_, fun a u q => ?_, fun a q => upd_ne fun z => q ((hs a).mpr z)⟩
    · subst e
      exact .ins upd_same hc hk (hr.mono (Ex.new hb))
    · by_cases ha : a = p
      · subst ha; rw [upd_same] at q; cases q; exact hp
      · rw [upd_ne ha] at q; exact hx a u q
    · by_cases ha : a = p
      · exact .inr ((hs a).mpr ha)
      · rw [upd_ne ha] at q; exact .inl q
theorem Rp.bgrow (h : Rp K B H σ e S) (hb : Ex B B') (hx : Ex B' H) (hc : ∀ i a, S i a → B' a = none) : Rp K B' H σ e S :=
  ⟨h.len, hx, fun i o ho => by
    obtain ⟨v, h1, h2⟩ := h.rep i o ho
    refine ⟨v, h1, ?_⟩
    cases o with
    | fr d => exact ⟨h2.1.mono hb, h2.2⟩
    | lst ds =>
      obtain ⟨p, xs, e, hp, hr, hs⟩ := h2
      exact ⟨p, xs, e, hp, hr.mono hb, hs⟩
    | dct kvs =>
      obtain ⟨p, kv, e, hp, hk, hr, hs⟩ := h2
      exact ⟨p, kv, e, hp, hk, hr.mono hb, hs⟩
    | ins c ns xs =>
      obtain ⟨p, C, dx, fs, e, hp, hc, hk, hr, hs⟩ := h2
      exact ⟨p, C, dx, fs, e, hp, hc, hk, hr.mono hb, hs⟩
    | exn a d x =>
      obtain ⟨e, ⟨fs, hd, hx⟩, hs⟩ := h2
      exact ⟨e, ⟨fs, hb _ _ hd, hx.mono hb⟩, hs⟩, h.dis, fun i a ha => ⟨hc i a ha, (h.own i a ha).2⟩⟩
/-- a value beside the slots frozen -/
theorem Vl.freeze (h : Vl K B H σ e S v o T) : ∃ B', Vl K B' H σ e S v (.fr o.d) noS ∧ Fr B H T B' H noS := by
  obtain ⟨B', r, hb, hx, hc, _⟩ := Dn.freeze h.ro h.rp.ex h.own
  refine ⟨B', .fr (h.rp.bgrow hb hx fun i a ha => ?_) r, ⟨hb, fun _ _ q _ => q, fun _ z => z.elim, fun a u q => (hc a u q).elim .inl fun z => .inr (.inl z), fun _ o q => ⟨o, q⟩⟩⟩
  cases q : B' a with
  | none => rfl
  | some u =>
    rcases hc a u q with z | z
    · rw [(h.rp.own i a ha).1] at z; cases z
    · exact absurd ⟨i, ha⟩ (h.dj a z)
/-- a slot frozen where it stands -/
theorem Rp.freeze (h : Rp K B H σ e S) {i : Nat} (hi : e[i]? = some (some o)) : ∃ B' v, σ[i]? = some (some v) ∧ Rep K B' v o.d ∧
    Rp K B' H σ (e.set i (some (.fr o.d))) (fun j => if j = i then noS else S j) ∧ Fr B H (tot S) B' H (tot (fun j => if j = i then noS else S j)) := by
  obtain ⟨v, hv, ro⟩ := h.rep i o hi
  obtain ⟨B', r, hb, hx, hc, _⟩ := Dn.freeze ro h.ex (h.own i)
  have hl : i < e.length := (List.getElem?_eq_some_iff.mp hi).1
  have hn : ∀ j a, j ≠ i → S j a → B' a = none := fun j a hj ha => by
    cases q : B' a with
    | none => rfl
    | some u =>
      rcases hc a u q with z | z
      · rw [(h.own j a ha).1] at z; cases z
      · exact absurd (h.dis j i a ha z) hj
  refine ⟨B', v, hv, r, ⟨by rw [List.length_set]; exact h.len, hx, fun j o' ho => ?_, fun j k a h1 h2 => ?_, fun j a h1 => ?_⟩, ⟨hb, fun _ _ q _ => q, fun a z => .inl (tot_forget z), fun a u q => (hc a u q).elim .inl fun z => .inr (.inl ⟨i, z⟩), fun _ o q => ⟨o, q⟩⟩⟩
  · by_cases hj : j = i
    · subst hj
      rw [List.getElem?_set_self hl] at ho
      cases ho
      exact ⟨v, hv, by simp only [if_true]; exact ⟨r, fun _ z => z⟩⟩
    · rw [List.getElem?_set_ne (Ne.symm hj)] at ho
      obtain ⟨w, h1, h2⟩ := h.rep j o' ho
      refine ⟨w, h1, ?_⟩
      rw [if_neg hj]
      cases o' with
      | fr d => exact ⟨h2.1.mono hb, h2.2⟩
      | lst ds =>
        obtain ⟨p, xs, e, hp, hr, hs⟩ := h2
        exact ⟨p, xs, e, hp, hr.mono hb, hs⟩
      | dct kvs =>
        obtain ⟨p, kv, e, hp, hk, hr, hs⟩ := h2
        exact ⟨p, kv, e, hp, hk, hr.mono hb, hs⟩
      | ins c ns xs =>
        obtain ⟨p, C, dx, fs, e, hp, hc, hk, hr, hs⟩ := h2
        exact ⟨p, C, dx, fs, e, hp, hc, hk, hr.mono hb, hs⟩
      | exn a d x =>
        obtain ⟨e, ⟨fs, hd, hx⟩, hs⟩ := h2
        exact ⟨e, ⟨fs, hb _ _ hd, hx.mono hb⟩, hs⟩
  · by_cases hj : j = i
    · rw [if_pos hj] at h1; exact h1.elim
    · by_cases hk : k = i
      · rw [if_pos hk] at h2; exact h2.elim
      · rw [if_neg hj] at h1; rw [if_neg hk] at h2
        exact h.dis j k a h1 h2
  · by_cases hj : j = i
    · rw [if_pos hj] at h1; exact h1.elim
    · rw [if_neg hj] at h1; exact ⟨hn j a hj h1, (h.own j a h1).2⟩
end
end Dn

namespace Dn
open PySem L2
open Evl (Ex)

/-! ## 3. What is computed -/
inductive Fl where
  | next | ret (o : O) | brk | cnt
/-- an operand: a slot that is only looked at, or a value -/
inductive P where
  | b (i : Nat) | v (f : M O)
def ops : List P → M (List D)
  | [] => M.pure []
  | .b i :: ps => fun e => match e[i]? with
    | some (some _) => (ops ps).bind (fun ds e' => match e'[i]? with
      | some (some o) => some (.ok (o.d :: ds) e')
      | _ => none) e
    | _ => none
  | .v f :: ps => f.bind fun o => (ops ps).bind fun ds => M.pure (o.d :: ds)
/-- an operation on operands -/
def ap (g : List D → Option O) (ps : List P) : M O := (ops ps).bind fun ds e => (g ds).map fun o => .ok o e
def eC (d : D) : M O := M.pure (.fr d)
/-- a name, its value kept from now on by others too -/
def eVar (i : Nat) : M O := fun e => match e[i]? with
  | some (some (.fr d)) => some (.ok (.fr d) e)
  | some (some (.lst ds)) => some (.ok (.fr (.lst ds)) (e.set i (some (.fr (.lst ds)))))
  | some (some (.dct ks ds)) => some (.ok (.fr (.dct ks ds)) (e.set i (some (.fr (.dct ks ds)))))
  | some (some (.ins c ns ds)) => some (.ok (.fr (.ins c ns ds)) (e.set i (some (.fr (.ins c ns ds)))))
  | _ => none
/-- a name that is not looked at again -/
def eMove (i : Nat) : M O := fun e => match e[i]? with
  | some (some (.fr d)) => some (.ok (.fr d) e)
  | some (some o) => some (.ok o (e.set i none))
  | _ => none
/-- a value that is kept by others -/
def eFz (f : M O) : M O := f.bind fun o => M.pure (.fr o.d)
def eIf (c : M Bool) (f g : M O) : M O := c.bind fun b => if b then f else g
def eAnd (f g : M O) : M O := f.bind fun o => match o with
  | .fr (.bl true) => g
  | .fr (.bl false) => M.pure (.fr (.bl false))
  | _ => M.stuck
def eOr (f g : M O) : M O := f.bind fun o => match o with
  | .fr (.bl false) => g
  | .fr (.bl true) => M.pure (.fr (.bl true))
  | _ => M.stuck
def eNot (f : M O) : M O := f.bind fun o => match o with
  | .fr (.bl b) => M.pure (.fr (.bl (!b)))
  | _ => M.stuck
/-- a value that is True or False, as a test -/
def tst (f : M O) : M Bool := f.bind fun o => match o with
  | .fr (.bl b) => M.pure b
  | _ => M.stuck
def cAnd (c d : M Bool) : M Bool := c.bind fun b => if b then d else M.pure false
def cOr (c d : M Bool) : M Bool := c.bind fun b => if b then M.pure true else d
def cNot (c : M Bool) : M Bool := c.bind fun b => M.pure (!b)
/-- the items of a display -/
def items : List (M O) → M (List D)
  | [] => M.pure []
  | f :: fs => f.bind fun o => (items fs).bind fun ds => M.pure (o.d :: ds)
def eTup (fs : List (M O)) : M O := (items fs).bind fun ds => M.pure (.fr (.tup ds))
def eLst (fs : List (M O)) : M O := (items fs).bind fun ds => M.pure (.lst ds)

def sNext : M Fl := M.pure .next
def sSeq (a b : M Fl) : M Fl := a.bind fun f => match f with
  | .next => b
  | .ret o => M.pure (.ret o)
  | .brk => M.pure .brk
  | .cnt => M.pure .cnt
def sIf (c : M Bool) (a b : M Fl) : M Fl := c.bind fun t => if t then a else b
def sRet (f : M O) : M Fl := f.bind fun o => M.pure (.ret o)
def sBrk : M Fl := M.pure .brk
def sCnt : M Fl := M.pure .cnt
def sDrop (f : M O) : M Fl := f.bind fun _ => M.pure .next
def sSet (i : Nat) (f : M O) : M Fl := f.bind fun o e => some (.ok .next (e.set i (some o)))

/-! ## 4. Judgements -/
def Post {α : Type} (r : Option (Ro α)) (ok : α → Sl → Prop) (ex : Exn → Sl → Prop) : Prop := match r with
  | none => False
  | some (.ok a e) => ok a e
  | some (.ex x e) => ex x e
theorem Post.bind {α β : Type} {m : M α} {f : α → M β} {e : Sl} {ok : β → Sl → Prop} {ex : Exn → Sl → Prop} (h : Post (M.bind m f e) ok ex) : Post (m e) (fun a e' => Post (f a e') ok ex) ex := by
  unfold M.bind at h
  cases q : m e with
  | none => rw [q] at h; exact h
  | some r => cases r <;> (rw [q] at h; exact h)
theorem Post.imp {α : Type} {r : Option (Ro α)} {ok ok' : α → Sl → Prop} {ex ex' : Exn → Sl → Prop} (h : Post r ok ex) (h1 : ∀ a e, ok a e → ok' a e) (h2 : ∀ x e, ex x e → ex' x e) : Post r ok' ex' := by
  cases r with
  | none => exact h
  | some r => cases r with
    | ok a e => exact h1 a e h
    | ex x e => exact h2 x e h

/-- the slots ks hold what they held -/
def Kp (ks : List Nat) (σ σ' : St) : Prop := ∀ i ∈ ks, σ'[i]? = σ[i]?
theorem Kp.refl (ks : List Nat) (σ : St) : Kp ks σ σ := fun _ _ => rfl
theorem Kp.trans {ks : List Nat} {σ σ1 σ2 : St} (a : Kp ks σ σ1) (b : Kp ks σ1 σ2) : Kp ks σ σ2 := fun i hi => (b i hi).trans (a i hi)
theorem Kp.set {ks : List Nat} {σ : St} {i : Nat} {v : Option V} (h : i ∉ ks) : Kp ks σ (σ.set i v) := fun j hj => by
  rw [List.getElem?_set_ne]
  intro e
  subst e
  exact h hj

section
variable (K : PySem.W.Frag) (mg : Str → Option Value) (W : WX)
def ExS (ks : List Nat) (B H : Hp) (S : Nat → Addr → Prop) (σ : St) (x : Exn) (e' : Sl) : Prop :=
  ∀ (C d : Addr) (fs : List (Str × V)) (σ' : St) (B' H' : Hp) (S' : Nat → Addr → Prop), mg x.cls = some (.ref C) → Rp K B' H' σ' e' S' → H' d = some (.xd fs) → XF K B' fs x.fs → H d = none → Kp ks σ σ' → Fr B H (tot S) B' H' (tot S') → W (.ref C) (some d) σ' H'
/-- an error out of an expression: the slots are as they were -/
def ExE (B H : Hp) (S : Nat → Addr → Prop) (σ : St) (x : Exn) (e' : Sl) : Prop :=
  ∀ (C d : Addr) (fs : List (Str × V)) (B' H' : Hp) (S' : Nat → Addr → Prop), mg x.cls = some (.ref C) → Rp K B' H' σ e' S' → H' d = some (.xd fs) → XF K B' fs x.fs → H d = none → Fr B H (tot S) B' H' (tot S') → W (.ref C) (some d) σ H'
def tE (f : M O) : TE := fun σ H Q => ∃ B e S, Rp K B H σ e S ∧ Post (f e)
  (fun o e' => ∀ v B' H' S' T, Vl K B' H' σ e' S' v o T → Fr B H (tot S) B' H' (fun a => T a ∨ tot S' a) → Q v H') (fun x e' => ExE K mg W B H S σ x e')
def tT (f : M Bool) : TT := fun σ H Q => ∃ B e S, Rp K B H σ e S ∧ Post (f e)
  (fun b e' => ∀ B' H' S', Rp K B' H' σ e' S' → Fr B H (tot S) B' H' (tot S') → Q b H') (fun x e' => ExE K mg W B H S σ x e')
def tP : P → TE
  | .b i => tVar i
  | .v f => tE K mg W f
def tPs : List P → TA
  | [] => tNil
  | p :: ps => tCons (tP K mg W p) (tPs ps)
def tS (ks : List Nat) (g : M Fl) : TS := fun D σ H => ∃ B e S, Rp K B H σ e S ∧ Post (g e)
  (fun fl e' => match fl with
    | .next => ∀ σ' B' H' S', Rp K B' H' σ' e' S' → Kp ks σ σ' → Fr B H (tot S) B' H' (tot S') → D.nx σ' H'
    | .brk => ∀ σ' B' H' S', Rp K B' H' σ' e' S' → Kp ks σ σ' → Fr B H (tot S) B' H' (tot S') → D.bk σ' H'
    | .cnt => ∀ σ' B' H' S', Rp K B' H' σ' e' S' → Kp ks σ σ' → Fr B H (tot S) B' H' (tot S') → D.ct σ' H'
    | .ret o => ∀ v σ' B' H' S' T, Vl K B' H' σ' e' S' v o T → Kp ks σ σ' → Fr B H (tot S) B' H' (fun a => T a ∨ tot S' a) → D.rt v H') (fun x e' => ExS K mg W ks B H S σ x e')
end

theorem pe_imp {X : Cx} {e : Expr} {t t' : TE} (h : PE X e t) (i : ∀ σ H Q, t' σ H Q → t σ H Q) : PE X e t' := ⟨fun pins s σ H Q I q => h.run pins s σ H Q I (i σ H Q q)⟩
theorem pt_imp {X : Cx} {e : Expr} {t t' : TT} (h : PT X e t) (i : ∀ σ H Q, t' σ H Q → t σ H Q) : PT X e t' := ⟨fun pins s σ H Q I q => h.run pins s σ H Q I (i σ H Q q)⟩
theorem pw_imp {X : Cx} {e : Expr} {t t' : TT} (h : PW X e t) (i : ∀ σ H Q, t' σ H Q → t σ H Q) : PW X e t' := ⟨fun w pins s σ H Q I q => h.run w pins s σ H Q I (i σ H Q q)⟩
theorem pa_imp {X : Cx} {e : List Expr} {t t' : TA} (h : PA X e t) (i : ∀ σ H Q, t' σ H Q → t σ H Q) : PA X e t' := ⟨fun p pins s σ H Q I q => h.run p pins s σ H Q I (i σ H Q q)⟩
theorem ps_imp {X : Cx} {e : Stmt} {t t' : TS} (h : PS X e t) (i : ∀ D σ H, t' D σ H → t D σ H) : PS X e t' := ⟨fun pins s σ H D I q => h.run pins s σ H D I (i D σ H q)⟩
theorem pss_imp {X : Cx} {e : List Stmt} {t t' : TS} (h : PSs X e t) (i : ∀ D σ H, t' D σ H → t D σ H) : PSs X e t' := ⟨fun pins s σ H D I q => h.run pins s σ H D I (i D σ H q)⟩

section
variable {K : PySem.W.Frag} {mg : Str → Option Value} {W : WX} {B B' H H' : Hp} {v x y : V} {o : O} {d : D} {σ : St} {e e' : Sl} {S S' : Nat → Addr → Prop} {T T' : Addr → Prop} {ks : List Nat}
theorem ExS.step {σ1 : St} {x : Exn} (h : ExS K mg W ks B H S σ x e') (k : Kp ks σ σ1) (f : Fr B H (tot S) B' H' (tot S')) : ExS K mg W ks B' H' S' σ1 x e' :=
  fun C d fs σ' B2 H2 S2 h1 h2 h3 h4 hn h5 h6 => h C d fs σ' B2 H2 S2 h1 h2 h3 h4 (f.back hn) (k.trans h5) (f.trans h6)

theorem ExE.step {x : Exn} (h : ExE K mg W B H S σ x e') (f : Fr B H (tot S) B' H' (tot S')) : ExE K mg W B' H' S' σ x e' :=
  fun C d fs B2 H2 S2 h1 h2 h3 h4 hn h6 => h C d fs B2 H2 S2 h1 h2 h3 h4 (f.back hn) (f.trans h6)
theorem ExS.toE {x : Exn} (h : ExS K mg W ks B H S σ x e') : ExE K mg W B H S σ x e' := fun C d fs B2 H2 S2 h1 h2 h3 h4 hn h6 => h C d fs σ B2 H2 S2 h1 h2 h3 h4 hn (Kp.refl _ _) h6
/-- a value that is read: its items are frozen -/
def Rd (K : PySem.W.Frag) (B H : Hp) (v : V) : D → Prop
  | .lst ds => ∃ a xs, v = .ref a ∧ H a = some (.lst xs) ∧ RepL K B xs ds
  | .dct ks ds => ∃ a kv, v = .ref a ∧ H a = some (.dK kv) ∧ kv.map (·.1) = ks ∧ RepL K B (kv.map (·.2)) ds
  | .ins c ns ds => ∃ a C dx fs, v = .ref a ∧ H a = some (.ins C dx fs) ∧ ClsN K c C ∧ fs.map (·.1) = ns ∧ RepL K B (fs.map (·.2)) ds
  | d => Rep K B v d
theorem Rep.rd (h : Rep K B v d) (hx : Ex B H) : Rd K B H v d := by
  cases h with
  | lst h hs => exact ⟨_, _, rfl, hx _ _ h, hs⟩
  | non => exact .non
  | bl b => exact .bl b
  | int i => exact .int i
  | str x => exact .str x
  | tup h hs => exact .tup h hs
  | scr h => exact .scr h
  | opq v => exact .opq v
  | dct h hk hs => exact ⟨_, _, rfl, hx _ _ h, hk, hs⟩
  | ins h hc hk hs => exact ⟨_, _, _, _, rfl, hx _ _ h, hc, hk, hs⟩
theorem RepO.rd (h : RepO K B H v o T) (hx : Ex B H) : Rd K B H v o.d := by
  cases o with
  | fr d => exact h.1.rd hx
  | lst ds =>
    obtain ⟨p, xs, e, hp, hr, hs⟩ := h
    exact ⟨p, xs, e, hp, hr⟩
  | dct ks xs =>
    obtain ⟨p, kv, e, hp, hk, hr, hs⟩ := h
    exact ⟨p, kv, e, hp, hk, hr⟩
  | ins c ns xs =>
    obtain ⟨p, C, dx, fs, e, hp, hc, hk, hr, hs⟩ := h
    exact ⟨p, C, dx, fs, e, hp, hc, hk, hr⟩
  | exn a d x => exact .opq v
theorem Rd.rep (h : Rd K B H v d) (hx : Ex B H) : Rep K H v d := by
  cases d with
  | lst ds =>
    obtain ⟨a, xs, rfl, h1, h2⟩ := h
    exact .lst h1 (h2.mono hx)
  | dct ks ds =>
    obtain ⟨a, kv, rfl, h1, hk, h2⟩ := h
    exact .dct h1 hk (h2.mono hx)
  | ins c ns ds =>
    obtain ⟨a, C, dx, fs, rfl, h1, hc, hk, h2⟩ := h
    exact .ins h1 hc hk (h2.mono hx)
  | non => exact Rep.mono hx h
  | bl b => exact Rep.mono hx h
  | int i => exact Rep.mono hx h
  | str x => exact Rep.mono hx h
  | tup ds => exact Rep.mono hx h
  | scr ns => exact Rep.mono hx h
  | opq => exact .opq v
theorem Rd.grow (h : Rd K B H v d) (g : Gr B H B' H') : Rd K B' H' v d := by
  cases d with
  | lst ds =>
    obtain ⟨a, xs, rfl, h1, h2⟩ := h
    exact ⟨a, xs, rfl, g.h _ _ h1, h2.mono g.b⟩
  | dct ks ds =>
    obtain ⟨a, kv, rfl, h1, hk, h2⟩ := h
    exact ⟨a, kv, rfl, g.h _ _ h1, hk, h2.mono g.b⟩
  | ins c ns ds =>
    obtain ⟨a, C, dx, fs, rfl, h1, hc, hk, h2⟩ := h
    exact ⟨a, C, dx, fs, rfl, g.h _ _ h1, hc, hk, h2.mono g.b⟩
  | non => exact Rep.mono g.b h
  | bl b => exact Rep.mono g.b h
  | int i => exact Rep.mono g.b h
  | str x => exact Rep.mono g.b h
  | tup ds => exact Rep.mono g.b h
  | scr ns => exact Rep.mono g.b h
  | opq => exact .opq v
inductive RdL (K : PySem.W.Frag) (B H : Hp) : List V → List D → Prop
  | nil : RdL K B H [] []
  | cons {v : V} {vs : List V} {d : D} {ds : List D} : Rd K B H v d → RdL K B H vs ds → RdL K B H (v :: vs) (d :: ds)

/-- the operands, from the left -/
theorem ops_run : ∀ (ps : List P) {B H : Hp} {e : Sl} {S : Nat → Addr → Prop} (Q : List V → Hp → Prop), Rp K B H σ e S →
    Post (ops ps e) (fun ds e' => ∀ vs B' H' S', Rp K B' H' σ e' S' → RdL K B' H' vs ds → Fr B H (tot S) B' H' (tot S') → Q vs H') (fun x e' => ExE K mg W B H S σ x e') → tPs K mg W ps σ H Q
  | [], B, H, e, S, Q, r, h => h [] B H S r .nil (Fr.refl _ _ _)
  | .b i :: ps, B, H, e, S, Q, r, h => by
    unfold ops at h
    cases q : e[i]? with
    | none => rw [q] at h; exact h.elim
    | some u =>
      cases u with
      | none => rw [q] at h; exact h.elim
      | some o0 =>
        rw [q] at h
        obtain ⟨v, hv, _⟩ := r.rep i o0 q
        refine ⟨v, hv, ops_run ps _ r (h.bind.imp (fun ds e' h vs B' H' S' r' rl f => ?_) fun _ _ z => z)⟩
        cases q' : e'[i]? with
        | none => rw [q'] at h; exact h.elim
        | some u' =>
          cases u' with
          | none => rw [q'] at h; exact h.elim
          | some o =>
            rw [q'] at h
            obtain ⟨v', hv', ro⟩ := r'.rep i o q'
            rw [hv] at hv'; cases hv'
            exact h _ B' H' S' r' (.cons (ro.rd r'.ex) rl) f
  | .v f :: ps, B, H, e, S, Q, r, h => by
    unfold ops at h
    refine ⟨B, e, S, r, h.bind.imp (fun o e1 h v B1 H1 S1 T vl f1 => ?_) fun _ _ z => z⟩
    have f1' : Fr B H (tot S) B1 H1 (tot S1) := f1.imp (fun _ z => z) fun _ z => .inr z
    refine ops_run ps _ vl.rp (h.bind.imp (fun ds e' h vs B' H' S' r' rl f2 => ?_) fun x e' z => z.step f1')
    have h' : ∀ vs B' H' S', Rp K B' H' σ e' S' → RdL K B' H' vs (o.d :: ds) → Fr B H (tot S) B' H' (tot S') → Q vs H' := h
    obtain ⟨ro, _, _⟩ := vl.ro.frame vl.own vl.dj f2
    exact h' _ B' H' S' r' (.cons (ro.rd r'.ex) rl) (f1'.trans f2)

/-- what an operation gives: the heap grows, the result may be a new list of one's own -/
def Giv (K : PySem.W.Frag) (B H : Hp) (o : O) (Q : VK) : Prop := ∀ v B' H' T, Gr B H B' H' → RepO K B' H' v o T → (∀ a, T a → H a = none) → Own B' H' T → Q v H'
theorem Giv.fr {Q : VK} (h : Giv K B H (.fr d) Q) (hx : Ex B H) (r : Rep K B v d) : Q v H := h v B H noS (Gr.refl hx) ⟨r, fun _ z => z⟩ (fun _ z => z.elim) own_no
theorem Giv.newL {Q : VK} {xs : List V} {ds : List D} (h : Giv K B H (.lst ds) Q) (hx : Ex B H) (r : RepL K B xs ds) {p : Addr} (hp : H p = none) : Q (.ref p) (upd H p (.lst xs)) := by
  have g := Gr.own hx hp (.lst xs)
  refine h (.ref p) B _ (fun a => a = p) g ⟨p, xs, rfl, upd_same, r, fun a => Iff.rfl⟩ (fun a e => by rw [e]; exact hp) fun a e => ?_
  subst e
  refine ⟨?_, _, upd_same⟩
  cases q : B a with
  | none => rfl
  | some u => have := hx a u q; rw [hp] at this; cases this
theorem Giv.newT {Q : VK} {xs : List V} {ds : List D} (h : Giv K B H (.fr (.tup ds)) Q) (hx : Ex B H) (r : RepL K B xs ds) {p : Addr} (hp : H p = none) : Q (.ref p) (upd H p (.tup xs)) := by
  have g := Gr.new hx hp (.tup xs)
  exact h (.ref p) (upd B p (.tup xs)) _ noS g ⟨.tup (Evl.st_of upd_same) (r.mono g.b), fun _ z => z⟩ (fun _ z => z.elim) own_no
/-- a list that is new where it is kept by others at once -/
theorem Giv.newF {Q : VK} {xs : List V} {ds : List D} (h : Giv K B H (.fr (.lst ds)) Q) (hx : Ex B H) (r : RepL K B xs ds) {p : Addr} (hp : H p = none) : Q (.ref p) (upd H p (.lst xs)) := by
  have g := Gr.new hx hp (.lst xs)
  exact h (.ref p) (upd B p (.lst xs)) _ noS g ⟨.lst upd_same (r.mono g.b), fun _ z => z⟩ (fun _ z => z.elim) own_no
/-- an operation's outcome beside the slots -/
theorem Rp.giv {Q : VK} (r : Rp K B H σ e S) (h : ∀ v B' H' S' T, Vl K B' H' σ e S' v o T → Fr B H (tot S) B' H' (fun a => T a ∨ tot S' a) → Q v H') : Giv K B H o Q :=
  fun v B' H' T g ro hn ow => h v B' H' S T ⟨r.grow g, ro, ow, fun a ha ⟨i, hi⟩ => by
    obtain ⟨_, u, hu⟩ := r.own i a hi
    rw [hn a ha] at hu; cases hu⟩ ⟨g.b, fun a o q _ => g.h a o q, fun a z => z.elim (fun z => .inr (hn a z)) .inl, fun a u q => (g.c a u q).elim .inl fun z => .inr (.inr z), fun a u q => ⟨u, g.h a u q⟩⟩

def Snd2 (K : PySem.W.Frag) (r : R2) (g : List D → Option O) : Prop := ∀ (B H : Hp) (x y : V) (a b : D) (o : O), Ex B H → Rd K B H x a → Rd K B H y b → g [a, b] = some o → ∀ Q : VK, Giv K B H o Q → r x y H Q
def Snd1 (K : PySem.W.Frag) (r : V → Hp → VK → Prop) (g : List D → Option O) : Prop := ∀ (B H : Hp) (x : V) (a : D) (o : O), Ex B H → Rd K B H x a → g [a] = some o → ∀ Q : VK, Giv K B H o Q → r x H Q
def SndN (K : PySem.W.Frag) (r : List V → Hp → VK → Prop) (g : List D → Option O) : Prop := ∀ (B H : Hp) (vs : List V) (ds : List D) (o : O), Ex B H → RdL K B H vs ds → g ds = some o → ∀ Q : VK, Giv K B H o Q → r vs H Q

/-- the end of an operation's reading -/
theorem ap_end {g : List D → Option O} {ds : List D} {okP : O → Sl → Prop} {exP : Exn → Sl → Prop} (h : Post ((g ds).map fun o => Ro.ok o e') okP exP) : ∃ o, g ds = some o ∧ okP o e' := by
  cases q : g ds with
  | none => rw [q] at h; exact h.elim
  | some o => rw [q] at h; exact ⟨o, rfl, h⟩
theorem ap2_run {r : R2} {g : List D → Option O} {p q : P} (hs : Snd2 K r g) (Q : VK) (h : tE K mg W (ap g [p, q]) σ H Q) : tOp r (tP K mg W p) (tP K mg W q) σ H Q := by
  obtain ⟨B, e, S, rp, h⟩ := h
  have key := ops_run (K := K) (mg := mg) (W := W) (σ := σ) [p, q] (fun vs H' => ∀ x y, vs = [x, y] → r x y H' Q) rp (h.bind.imp (fun ds e' h vs B' H' S' r' rl f x y ev => ?_) fun _ _ z => z)
  · show tP K mg W p σ H fun x H1 => tP K mg W q σ H1 fun y H2 => r x y H2 Q
    have key' : tP K mg W p σ H fun x H1 => tP K mg W q σ H1 fun y H2 => ∀ x' y', [x, y] = [x', y'] → r x' y' H2 Q := key
    have mono : ∀ (p : P) (σ : St) (H : Hp) (Q Q' : VK), (∀ v H, Q v H → Q' v H) → tP K mg W p σ H Q → tP K mg W p σ H Q' := fun p σ H Q Q' hq t => by
      cases p with
      | b i => obtain ⟨v, e, q⟩ := t; exact ⟨v, e, hq _ _ q⟩
      | v f => obtain ⟨B, e, S, r, t⟩ := t; exact ⟨B, e, S, r, t.imp (fun o e' h v B' H' S' T vl f => hq _ _ (h v B' H' S' T vl f)) fun _ _ z => z⟩
    exact mono _ _ _ _ _ (fun x H1 t => mono _ _ _ _ _ (fun y H2 t => t x y rfl) t) key'
  · subst ev
    obtain ⟨o, ho, h2⟩ := ap_end h
    cases rl with
    | cons h1 rl =>
      cases rl with
      | cons k2 rl =>
        cases rl
        exact hs B' H' x y _ _ o r'.ex h1 k2 ho Q (r'.giv fun v B2 H2 S2 T vl f2 => h2 v B2 H2 S2 T vl (f.trans f2))
theorem ap1_run {r : V → Hp → VK → Prop} {g : List D → Option O} {p : P} (hs : Snd1 K r g) (Q : VK) (h : tE K mg W (ap g [p]) σ H Q) : tP K mg W p σ H fun x H1 => r x H1 Q := by
  obtain ⟨B, e, S, rp, h⟩ := h
  have key := ops_run (K := K) (mg := mg) (W := W) (σ := σ) [p] (fun vs H' => ∀ x, vs = [x] → r x H' Q) rp (h.bind.imp (fun ds e' h vs B' H' S' r' rl f x ev => ?_) fun _ _ z => z)
  · have key' : tP K mg W p σ H fun x H1 => ∀ x', [x] = [x'] → r x' H1 Q := key
    have mono : ∀ (p : P) (σ : St) (H : Hp) (Q Q' : VK), (∀ v H, Q v H → Q' v H) → tP K mg W p σ H Q → tP K mg W p σ H Q' := fun p σ H Q Q' hq t => by
      cases p with
      | b i => obtain ⟨v, e, q⟩ := t; exact ⟨v, e, hq _ _ q⟩
      | v f => obtain ⟨B, e, S, r, t⟩ := t; exact ⟨B, e, S, r, t.imp (fun o e' h v B' H' S' T vl f => hq _ _ (h v B' H' S' T vl f)) fun _ _ z => z⟩
    exact mono _ _ _ _ _ (fun x H1 t => t x rfl) key'
  · subst ev
    obtain ⟨o, ho, h2⟩ := ap_end h
    cases rl with
    | cons h1 rl =>
      cases rl
      exact hs B' H' x _ o r'.ex h1 ho Q (r'.giv fun v B2 H2 S2 T vl f2 => h2 v B2 H2 S2 T vl (f.trans f2))
theorem apN_run {r : List V → Hp → VK → Prop} {g : List D → Option O} {ps : List P} (hs : SndN K r g) (Q : VK) (h : tE K mg W (ap g ps) σ H Q) : tPs K mg W ps σ H fun vs H1 => r vs H1 Q := by
  obtain ⟨B, e, S, rp, h⟩ := h
  refine ops_run (K := K) (mg := mg) (W := W) (σ := σ) ps _ rp (h.bind.imp (fun ds e' h vs B' H' S' r' rl f => ?_) fun _ _ z => z)
  obtain ⟨o, ho, h2⟩ := ap_end h
  exact hs B' H' vs _ o r'.ex rl ho Q (r'.giv fun v B2 H2 S2 T vl f2 => h2 v B2 H2 S2 T vl (f.trans f2))
end

/-! ## 5. Rules: names, constants, operations, tests -/
section
variable {X : Cx} {W : WX} {e a b c : Expr} {pos : Pos} {f g : M O} {p q : P} {op : Operator}
theorem d_var {i : Nat} {x : Str} (hv : PE X (.Name x pos) (tVar i)) : PE X (.Name x pos) (tE X.K X.mg W (eVar i)) := pe_imp hv fun σ H Q h => by
  obtain ⟨B, e, S, r, h⟩ := h
  unfold eVar at h
  cases q : e[i]? with
  | none => rw [q] at h; exact h.elim
  | some u =>
    cases u with
    | none => rw [q] at h; exact h.elim
    | some o =>
      rw [q] at h
      cases o with
      | fr d =>
        obtain ⟨v, hv, ro⟩ := r.rep i _ q
        exact ⟨v, hv, h v B H S noS (.fr r ro.1) ((Fr.refl _ _ _).imp (fun _ z => z) fun a z => z.elim (fun z => z.elim) id)⟩
      | lst ds =>
        obtain ⟨B', v, hv, rv, r', f⟩ := r.freeze q
        exact ⟨v, hv, h v B' H _ noS (.fr r' rv) (f.imp (fun _ z => z) fun a z => z.elim (fun z => z.elim) id)⟩
      | dct ks ds =>
        obtain ⟨B', v, hv, rv, r', f⟩ := r.freeze q
        exact ⟨v, hv, h v B' H _ noS (.fr r' rv) (f.imp (fun _ z => z) fun a z => z.elim (fun z => z.elim) id)⟩
      | ins c ns ds =>
        obtain ⟨B', v, hv, rv, r', f⟩ := r.freeze q
        exact ⟨v, hv, h v B' H _ noS (.fr r' rv) (f.imp (fun _ z => z) fun a z => z.elim (fun z => z.elim) id)⟩
      | exn _ _ _ => exact h.elim
theorem d_move {i : Nat} {x : Str} (hv : PE X (.Name x pos) (tVar i)) : PE X (.Name x pos) (tE X.K X.mg W (eMove i)) := pe_imp hv fun σ H Q h => by
  obtain ⟨B, e, S, r, h⟩ := h
  unfold eMove at h
  cases q : e[i]? with
  | none => rw [q] at h; exact h.elim
  | some u =>
    cases u with
    | none => rw [q] at h; exact h.elim
    | some o =>
      rw [q] at h
      obtain ⟨v, hv, ro⟩ := r.rep i _ q
      cases o with
      | fr d => exact ⟨v, hv, h v B H S noS (.fr r ro.1) ((Fr.refl _ _ _).imp (fun _ z => z) fun a z => z.elim (fun z => z.elim) id)⟩
      | lst ds =>
        refine ⟨v, hv, h v B H (fun j => if j = i then noS else S j) (S i) ⟨r.forget i, ro, r.own i, fun a h1 h2 => ?_⟩ ((Fr.refl _ _ _).imp (fun _ z => z) fun a z => z.elim (fun z => ⟨i, z⟩) tot_forget)⟩
        obtain ⟨j, h2⟩ := h2
        by_cases hj : j = i
        · rw [if_pos hj] at h2; exact h2
        · rw [if_neg hj] at h2; exact hj (r.dis j i a h2 h1)
      | dct ds =>
        refine ⟨v, hv, h v B H (fun j => if j = i then noS else S j) (S i) ⟨r.forget i, ro, r.own i, fun a h1 h2 => ?_⟩ ((Fr.refl _ _ _).imp (fun _ z => z) fun a z => z.elim (fun z => ⟨i, z⟩) tot_forget)⟩
        obtain ⟨j, h2⟩ := h2
        by_cases hj : j = i
        · rw [if_pos hj] at h2; exact h2
        · rw [if_neg hj] at h2; exact hj (r.dis j i a h2 h1)
      | ins c ns ds =>
        refine ⟨v, hv, h v B H (fun j => if j = i then noS else S j) (S i) ⟨r.forget i, ro, r.own i, fun a h1 h2 => ?_⟩ ((Fr.refl _ _ _).imp (fun _ z => z) fun a z => z.elim (fun z => ⟨i, z⟩) tot_forget)⟩
        obtain ⟨j, h2⟩ := h2
        by_cases hj : j = i
        · rw [if_pos hj] at h2; exact h2
        · rw [if_neg hj] at h2; exact hj (r.dis j i a h2 h1)
      | exn _ _ _ =>
        refine ⟨v, hv, h v B H (fun j => if j = i then noS else S j) (S i) ⟨r.forget i, ro, r.own i, fun a h1 h2 => ?_⟩ ((Fr.refl _ _ _).imp (fun _ z => z) fun a z => z.elim (fun z => ⟨i, z⟩) tot_forget)⟩
        obtain ⟨j, h2⟩ := h2
        by_cases hj : j = i
        · rw [if_pos hj] at h2; exact h2
        · rw [if_neg hj] at h2; exact hj (r.dis j i a h2 h1)
/-- a written value, a constant of the module: v holds d whatever the heap -/
theorem d_c {v : V} {d : D} (hv : PE X e (tC v)) (hr : ∀ B, Rep X.K B v d) : PE X e (tE X.K X.mg W (eC d)) := pe_imp hv fun σ H Q h => by
  obtain ⟨B, e, S, r, h⟩ := h
  exact h v B H S noS (.fr r (hr B)) ((Fr.refl _ _ _).imp (fun _ z => z) fun a z => z.elim (fun z => z.elim) id)
theorem d_int {i j} : PE X (.Constant (.int i) j pos) (tE X.K X.mg W (eC (.int i))) := d_c pe_int fun _ => .int _
theorem d_bl {b j} : PE X (.Constant (.bool b) j pos) (tE X.K X.mg W (eC (.bl b))) := d_c pe_bl fun _ => .bl _
theorem d_non {j} : PE X (.Constant .none j pos) (tE X.K X.mg W (eC .non)) := d_c pe_non fun _ => .non
theorem d_str {x j} : PE X (.Constant (.str x) j pos) (tE X.K X.mg W (eC (.str x))) := d_c pe_str fun _ => .str _
theorem d_fz (h : PE X e (tE X.K X.mg W f)) : PE X e (tE X.K X.mg W (eFz f)) := pe_imp h fun σ H Q h => by
  obtain ⟨B, e, S, r, h⟩ := h
  refine ⟨B, e, S, r, h.bind.imp (fun o e' h v B' H' S' T vl f => ?_) fun _ _ z => z⟩
  obtain ⟨B2, vl2, f2⟩ := vl.freeze
  refine h v B2 H' S' noS vl2 (f.trans ⟨f2.b, fun a o q _ => q, fun a z => z.elim (fun z => z.elim) fun z => .inl (.inr z), fun a u q => (f2.c a u q).elim .inl fun z => .inr (z.elim (fun z => .inl (.inl z)) .inr), fun a o q => ⟨o, q⟩⟩)
/-- operands -/
theorem p_b {i : Nat} {x : Str} (hv : PE X (.Name x pos) (tVar i)) : PE X (.Name x pos) (tP X.K X.mg W (.b i)) := hv
theorem p_v (h : PE X e (tE X.K X.mg W f)) : PE X e (tP X.K X.mg W (.v f)) := h
theorem pa_n : PA X [] (tPs X.K X.mg W []) := pa_nil
theorem pa_c {es : List Expr} {ps : List P} (h : PE X e (tP X.K X.mg W p)) (hr : PA X es (tPs X.K X.mg W ps)) (hs : starEach (e :: es) X.env = (false, eval e X.env) :: starEach es X.env := by rfl) : PA X (e :: es) (tPs X.K X.mg W (p :: ps)) := pa_cons h hr hs

theorem d_op {r : R2} {G : List D → Option O} (ho : OpR X (binaryOp op) r) (hs : Snd2 X.K r G) (ha : PE X a (tP X.K X.mg W p)) (hb : PE X b (tP X.K X.mg W q)) : PE X (.BinOp a op b pos) (tE X.K X.mg W (ap G [p, q])) :=
  pe_imp (pe_op ho ha hb) fun _ _ _ h => ap2_run hs _ h
theorem d_un {r : V → Hp → VK → Prop} {G : List D → Option O} {op : UnaryOp} (ho : UnR X (unaryOp op) r) (hs : Snd1 X.K r G) (ha : PE X a (tP X.K X.mg W p)) : PE X (.UnaryOp op a pos) (tE X.K X.mg W (ap G [p])) :=
  pe_imp (pe_un ho ha) fun _ _ _ h => ap1_run hs _ h
theorem d_cmp {r : R2} {G : List D → Option O} {op : CmpOp} (ho : OpR X (compareOp op) r) (hs : Snd2 X.K r G) (ha : PE X a (tP X.K X.mg W p)) (hb : PE X b (tP X.K X.mg W q)) (hm : behindInMarks op b = false) : PE X (.Compare a [op] [b] pos) (tE X.K X.mg W (ap G [p, q])) :=
  pe_imp (pe_cmpR ho ha hb hm) fun _ _ _ h => ap2_run hs _ h
theorem d_ix {r : R2} {G : List D → Option O} (ho : IxR X r) (hs : Snd2 X.K r G) (ha : PE X a (tP X.K X.mg W p)) (hb : PE X b (tP X.K X.mg W q)) (hp : PlainIx b) : PE X (.Subscript a b pos) (tE X.K X.mg W (ap G [p, q])) :=
  pe_imp (pe_ix ho ha hb hp) fun _ _ _ h => ap2_run hs _ h
theorem d_cb {r : List V → Hp → VK → Prop} {G : List D → Option O} {x : Str} {id : String} {p1 : Pos} {e : Expr} {es : List Expr} {ps : List P} (hc : CallR X (.builtin id) r) (hs : SndN X.K r G) (hg : Gl X x) (hm : X.mg x = none) (hv : bootBuiltins x = some (.builtin id)) (ha : PA X (e :: es) (tPs X.K X.mg W ps)) (hn : x ≠ "__name__" := by decide) (hdb : (x == ("__debug__" : Str)) = false := by decide)
    (he : starEach (e :: es) X.env = (false, eval e X.env) :: starEach es X.env := by rfl) (hpl : (backTo pos (starEach es X.env)).any (·.1) = false := by rfl) : PE X (.Call (.Name x p1) (e :: es) [] pos) (tE X.K X.mg W (ap G ps)) :=
  pe_imp (pe_callB hc hg hm hv ha hn hdb he hpl) fun _ _ _ h => apN_run hs _ h
theorem d_ct {r : List V → Hp → VK → Prop} {G : List D → Option O} {x : Str} {id : String} {p1 : Pos} {e : Expr} {es : List Expr} {ps : List P} (hc : CallR X (.type id) r) (hs : SndN X.K r G) (hg : Gl X x) (hm : X.mg x = none) (hv : bootBuiltins x = some (.type id)) (ha : PA X (e :: es) (tPs X.K X.mg W ps)) (hn : x ≠ "__name__" := by decide) (hdb : (x == ("__debug__" : Str)) = false := by decide)
    (he : starEach (e :: es) X.env = (false, eval e X.env) :: starEach es X.env := by rfl) (hpl : (backTo pos (starEach es X.env)).any (·.1) = false := by rfl) : PE X (.Call (.Name x p1) (e :: es) [] pos) (tE X.K X.mg W (ap G ps)) :=
  pe_imp (pe_callTy hc hg hm hv ha hn hdb he hpl) fun _ _ _ h => apN_run hs _ h

/-! ### tests -/
theorem c_tst (h : PE X e (tE X.K X.mg W f)) (he : ∀ whole, isTrue e X.env whole = (do let v ← whole; standAt e.pos; holding [v] (truthy v)) := by intro _; rfl) : PT X e (tT X.K X.mg W (tst f)) := pt_imp (pt_val h he) fun σ H Q h => by
  obtain ⟨B, e, S, r, h⟩ := h
  refine ⟨B, e, S, r, h.bind.imp (fun o e' h v B' H' S' T vl f => ?_) fun _ _ z => z⟩
  cases o with
  | lst ds => exact h.elim
  | dct _ _ => exact h.elim
  | ins _ _ _ => exact h.elim
  | exn _ _ _ => exact h.elim
  | fr d =>
    cases d with
    | bl b =>
      have hr := vl.ro.1
      cases hr
      exact ⟨b, rfl, h B' H' S' vl.rp (f.imp (fun _ z => z) fun _ z => .inr z)⟩
    | _ => exact h.elim
theorem c_cmp {r : R2} {G : List D → Option O} {op : CmpOp} (ho : OpR X (compareOp op) r) (hs : Snd2 X.K r G) (ha : PE X a (tP X.K X.mg W p)) (hb : PE X b (tP X.K X.mg W q)) (hm : behindInMarks op b = false) : PT X (.Compare a [op] [b] pos) (tT X.K X.mg W (tst (ap G [p, q]))) :=
  pt_imp (pt_cmpR ho ha hb hm) fun σ H Q h => by
    obtain ⟨B, e, S, r, h⟩ := h
    refine ap2_run hs (mg := X.mg) (W := W) _ ⟨B, e, S, r, h.bind.imp (fun o e' h v B' H' S' T vl f => ?_) fun _ _ z => z⟩
    cases o with
    | lst ds => exact h.elim
    | dct _ _ => exact h.elim
    | ins _ _ _ => exact h.elim
    | exn _ _ _ => exact h.elim
    | fr d =>
      cases d with
      | bl b =>
        have hr := vl.ro.1
        cases hr
        exact ⟨b, rfl, h B' H' S' vl.rp (f.imp (fun _ z => z) fun _ z => .inr z)⟩
      | _ => exact h.elim
theorem c_not {t : M Bool} (h : PT X e (tT X.K X.mg W t)) : PT X (.UnaryOp .Not e pos) (tT X.K X.mg W (cNot t)) := pt_imp (pt_not h) fun σ H Q h => by
  obtain ⟨B, e, S, r, h⟩ := h
  exact ⟨B, e, S, r, h.bind.imp (fun b e' h B' H' S' r' f => h B' H' S' r' f) fun _ _ z => z⟩
theorem w_one {t : M Bool} {bop : BoolOp} (h : PT X e (tT X.K X.mg W t)) : PW X (.BoolOp bop [e] pos) (tT X.K X.mg W t) := by
  cases bop with
  | And => exact pw_and1 h
  | Or => exact pw_or1 h
theorem w_and {t u : M Bool} {rest : List Expr} (ha : PT X a (tT X.K X.mg W t)) (hb : PW X (.BoolOp .And (b :: rest) pos) (tT X.K X.mg W u)) : PW X (.BoolOp .And (a :: b :: rest) pos) (tT X.K X.mg W (cAnd t u)) := pw_imp (pw_and ha hb) fun σ H Q h => by
  obtain ⟨B, e, S, r, h⟩ := h
  refine ⟨B, e, S, r, h.bind.imp (fun b e' h B' H' S' r' f => ?_) fun _ _ z => z⟩
  cases b with
  | true => exact iteT ⟨B', e', S', r', (show Post (u e') _ _ from h).imp (fun b e2 h B2 H2 S2 r2 f2 => h B2 H2 S2 r2 (f.trans f2)) fun _ _ z => z.step f⟩
  | false => exact iteF (h B' H' S' r' f)
theorem w_or {t u : M Bool} {rest : List Expr} (ha : PT X a (tT X.K X.mg W t)) (hb : PW X (.BoolOp .Or (b :: rest) pos) (tT X.K X.mg W u)) : PW X (.BoolOp .Or (a :: b :: rest) pos) (tT X.K X.mg W (cOr t u)) := pw_imp (pw_or ha hb) fun σ H Q h => by
  obtain ⟨B, e, S, r, h⟩ := h
  refine ⟨B, e, S, r, h.bind.imp (fun b e' h B' H' S' r' f => ?_) fun _ _ z => z⟩
  cases b with
  | false => exact iteF ⟨B', e', S', r', (show Post (u e') _ _ from h).imp (fun b e2 h B2 H2 S2 r2 f2 => h B2 H2 S2 r2 (f.trans f2)) fun _ _ z => z.step f⟩
  | true => exact iteT (h B' H' S' r' f)
theorem c_w {t : M Bool} (h : PW X e (tT X.K X.mg W t)) : PT X e (tT X.K X.mg W t) := h.pt

/-! ### and, or, not as values -/
theorem d_one {bop : BoolOp} (h : PE X e (tE X.K X.mg W f)) : PE X (.BoolOp bop [e] pos) (tE X.K X.mg W f) := pe_one h
theorem d_and {rest : List Expr} (ha : PE X a (tE X.K X.mg W f)) (hb : PE X (.BoolOp .And (b :: rest) pos) (tE X.K X.mg W g)) : PE X (.BoolOp .And (a :: b :: rest) pos) (tE X.K X.mg W (eAnd f g)) := pe_imp (pe_and ha hb) fun σ H Q h => by
  obtain ⟨B, e, S, r, h⟩ := h
  refine ⟨B, e, S, r, h.bind.imp (fun o e' h v B' H' S' T vl f => ?_) fun _ _ z => z⟩
  have f' := f.imp (fun _ z => z) (fun a (z : tot S' a) => .inr z)
  cases o with
  | lst ds => exact h.elim
  | dct _ _ => exact h.elim
  | ins _ _ _ => exact h.elim
  | exn _ _ _ => exact h.elim
  | fr d =>
    cases d with
    | bl b =>
      have hr := vl.ro.1
      cases hr
      cases b with
      | true => exact ⟨true, rfl, iteT ⟨B', e', S', vl.rp, (show Post (g e') _ _ from h).imp (fun o e2 h v B2 H2 S2 T2 vl2 f2 => h v B2 H2 S2 T2 vl2 (f'.trans f2)) fun _ _ z => z.step f'⟩⟩
      | false => exact ⟨false, rfl, iteF (h _ B' H' S' noS (.fr vl.rp (.bl false)) (f.imp (fun _ z => z) fun a z => z.elim (fun z => z.elim) .inr))⟩
    | _ => exact h.elim
theorem d_or {rest : List Expr} (ha : PE X a (tE X.K X.mg W f)) (hb : PE X (.BoolOp .Or (b :: rest) pos) (tE X.K X.mg W g)) : PE X (.BoolOp .Or (a :: b :: rest) pos) (tE X.K X.mg W (eOr f g)) := pe_imp (pe_or ha hb) fun σ H Q h => by
  obtain ⟨B, e, S, r, h⟩ := h
  refine ⟨B, e, S, r, h.bind.imp (fun o e' h v B' H' S' T vl f => ?_) fun _ _ z => z⟩
  have f' := f.imp (fun _ z => z) (fun a (z : tot S' a) => .inr z)
  cases o with
  | lst ds => exact h.elim
  | dct _ _ => exact h.elim
  | ins _ _ _ => exact h.elim
  | exn _ _ _ => exact h.elim
  | fr d =>
    cases d with
    | bl b =>
      have hr := vl.ro.1
      cases hr
      cases b with
      | false => exact ⟨false, rfl, iteF ⟨B', e', S', vl.rp, (show Post (g e') _ _ from h).imp (fun o e2 h v B2 H2 S2 T2 vl2 f2 => h v B2 H2 S2 T2 vl2 (f'.trans f2)) fun _ _ z => z.step f'⟩⟩
      | true => exact ⟨true, rfl, iteT (h _ B' H' S' noS (.fr vl.rp (.bl true)) (f.imp (fun _ z => z) fun a z => z.elim (fun z => z.elim) .inr))⟩
    | _ => exact h.elim
theorem d_not (ha : PE X a (tE X.K X.mg W f)) : PE X (.UnaryOp .Not a pos) (tE X.K X.mg W (eNot f)) := pe_imp (pe_not ha) fun σ H Q h => by
  obtain ⟨B, e, S, r, h⟩ := h
  refine ⟨B, e, S, r, h.bind.imp (fun o e' h v B' H' S' T vl f => ?_) fun _ _ z => z⟩
  cases o with
  | lst ds => exact h.elim
  | dct _ _ => exact h.elim
  | ins _ _ _ => exact h.elim
  | exn _ _ _ => exact h.elim
  | fr d =>
    cases d with
    | bl b =>
      have hr := vl.ro.1
      cases hr
      exact ⟨b, rfl, h _ B' H' S' noS (.fr vl.rp (.bl _)) (f.imp (fun _ z => z) fun a z => z.elim (fun z => z.elim) .inr)⟩
    | _ => exact h.elim
theorem d_if {t : M Bool} (hc : PT X c (tT X.K X.mg W t)) (ha : PE X a (tE X.K X.mg W f)) (hb : PE X b (tE X.K X.mg W g)) : PE X (.IfExp c a b pos) (tE X.K X.mg W (eIf t f g)) := pe_imp (pe_ifExp hc ha hb) fun σ H Q h => by
  obtain ⟨B, e, S, r, h⟩ := h
  refine ⟨B, e, S, r, h.bind.imp (fun b e' h B' H' S' r' f' => ?_) fun _ _ z => z⟩
  cases b with
  | true => exact iteT ⟨B', e', S', r', (show Post (f e') _ _ from h).imp (fun o e2 h v B2 H2 S2 T2 vl2 f2 => h v B2 H2 S2 T2 vl2 (f'.trans f2)) fun _ _ z => z.step f'⟩
  | false => exact iteF ⟨B', e', S', r', (show Post (g e') _ _ from h).imp (fun o e2 h v B2 H2 S2 T2 vl2 f2 => h v B2 H2 S2 T2 vl2 (f'.trans f2)) fun _ _ z => z.step f'⟩
end
end Dn

namespace Dn
open PySem L2
open Evl (Ex)

/-! ## 6. Statements -/
section
variable {K : PySem.W.Frag} {mg : Str → Option Value} {W : WX} {B B' H H' : Hp} {v x y : V} {o : O} {d : D} {σ σ' : St} {e e' : Sl} {S S' : Nat → Addr → Prop} {T T' : Addr → Prop} {ks : List Nat}
/-- what is wanted behind a statement, from (B, H, S, σ) on -/
def Nd (K : PySem.W.Frag) (D : Ends) (ks : List Nat) (B H : Hp) (S : Nat → Addr → Prop) (σ : St) : Fl → Sl → Prop := fun fl e' => match fl with
    | .next => ∀ σ' B' H' S', Rp K B' H' σ' e' S' → Kp ks σ σ' → Fr B H (tot S) B' H' (tot S') → D.nx σ' H'
    | .brk => ∀ σ' B' H' S', Rp K B' H' σ' e' S' → Kp ks σ σ' → Fr B H (tot S) B' H' (tot S') → D.bk σ' H'
    | .cnt => ∀ σ' B' H' S', Rp K B' H' σ' e' S' → Kp ks σ σ' → Fr B H (tot S) B' H' (tot S') → D.ct σ' H'
    | .ret o => ∀ v σ' B' H' S' T, Vl K B' H' σ' e' S' v o T → Kp ks σ σ' → Fr B H (tot S) B' H' (fun a => T a ∨ tot S' a) → D.rt v H'
theorem tS_iff {g : M Fl} {D : Ends} : tS K mg W ks g D σ H ↔ ∃ B e S, Rp K B H σ e S ∧ Post (g e) (Nd K D ks B H S σ) (ExS K mg W ks B H S σ) := Iff.rfl
theorem Nd.step {D : Ends} {fl : Fl} (h : Nd K D ks B H S σ fl e') (k : Kp ks σ σ') (f : Fr B H (tot S) B' H' (tot S')) : Nd K D ks B' H' S' σ' fl e' := by
  cases fl with
  | next => exact fun σ2 B2 H2 S2 r k2 f2 => h σ2 B2 H2 S2 r (k.trans k2) (f.trans f2)
  | brk => exact fun σ2 B2 H2 S2 r k2 f2 => h σ2 B2 H2 S2 r (k.trans k2) (f.trans f2)
  | cnt => exact fun σ2 B2 H2 S2 r k2 f2 => h σ2 B2 H2 S2 r (k.trans k2) (f.trans f2)
  | ret o => exact fun v σ2 B2 H2 S2 T vl k2 f2 => h v σ2 B2 H2 S2 T vl (k.trans k2) (f.trans f2)
theorem Fr.weak {H1 B1 : Hp} {T : Addr → Prop} (f : Fr B H (tot S) B1 H1 (fun a => T a ∨ tot S' a)) : Fr B H (tot S) B1 H1 (tot S') := f.imp (fun _ z => z) fun _ z => .inr z
end

section
variable {X : Cx} {W : WX} {ks : List Nat} {st : Stmt} {rest : List Stmt} {g g1 g2 : M Fl} {f : M O} {e : Expr} {pos : Pos}
theorem ss_nil : PSs X [] (tS X.K X.mg W ks sNext) := pss_imp pss_nil fun D σ H h => by
  obtain ⟨B, e, S, r, h⟩ := h
  exact h σ B H S r (Kp.refl _ _) (Fr.refl _ _ _)
theorem ss_one (h : PS X st (tS X.K X.mg W ks g)) : PSs X [st] (tS X.K X.mg W ks g) := pss_one h
theorem ss_cons (h1 : PS X st (tS X.K X.mg W ks g1)) (h2 : PSs X rest (tS X.K X.mg W ks g2)) : PSs X (st :: rest) (tS X.K X.mg W ks (sSeq g1 g2)) := pss_imp (pss_cons h1 h2) fun D σ H h => by
  obtain ⟨B, e, S, r, h⟩ := h
  refine ⟨B, e, S, r, h.bind.imp (fun fl e' h => ?_) fun _ _ z => z⟩
  cases fl with
  | next => exact fun σ' B' H' S' r' k f => ⟨B', e', S', r', (show Post (g2 e') (Nd X.K D ks B H S σ) _ from h).imp (fun fl e2 h => h.step k f) fun x e2 z => ExS.step z k f⟩
  | brk => exact h
  | cnt => exact h
  | ret o => exact h
theorem s_pass : PS X (.Pass pos) (tS X.K X.mg W ks sNext) := ps_imp ps_pass fun D σ H h => by
  obtain ⟨B, e, S, r, h⟩ := h
  exact h σ B H S r (Kp.refl _ _) (Fr.refl _ _ _)
theorem s_doc {x j pos'} : PS X (.Expr (.Constant (.str x) j pos) pos') (tS X.K X.mg W ks sNext) := ps_imp ps_doc fun D σ H h => by
  obtain ⟨B, e, S, r, h⟩ := h
  exact h σ B H S r (Kp.refl _ _) (Fr.refl _ _ _)
theorem s_brk : PS X (.Break pos) (tS X.K X.mg W ks sBrk) := ps_imp ps_break fun D σ H h => by
  obtain ⟨B, e, S, r, h⟩ := h
  exact h σ B H S r (Kp.refl _ _) (Fr.refl _ _ _)
theorem s_cnt : PS X (.Continue pos) (tS X.K X.mg W ks sCnt) := ps_imp ps_continue fun D σ H h => by
  obtain ⟨B, e, S, r, h⟩ := h
  exact h σ B H S r (Kp.refl _ _) (Fr.refl _ _ _)
theorem s_ret (h : PE X e (tE X.K X.mg W f)) : PS X (.Return (some e) pos) (tS X.K X.mg W ks (sRet f)) := ps_imp (ps_ret h) fun D σ H h => by
  obtain ⟨B, e, S, r, h⟩ := h
  exact ⟨B, e, S, r, h.bind.imp (fun o e' h v B' H' S' T vl f => h v σ B' H' S' T vl (Kp.refl _ _) f) fun _ _ z => ExS.toE z⟩
theorem s_retN : PS X (.Return none pos) (tS X.K X.mg W ks (sRet (eC .non))) := ps_imp ps_retN fun D σ H h => by
  obtain ⟨B, e, S, r, h⟩ := h
  exact h .non σ B H S noS (.fr r .non) (Kp.refl _ _) ((Fr.refl _ _ _).imp (fun _ z => z) fun a z => z.elim (fun z => z.elim) id)
theorem s_drop (h : PE X e (tE X.K X.mg W f)) (hs : swapsWith e none pos.line X.env = pure false := by rfl) : PS X (.Expr e pos) (tS X.K X.mg W ks (sDrop f)) := ps_imp (ps_expr h hs) fun D σ H h => by
  obtain ⟨B, e, S, r, h⟩ := h
  exact ⟨B, e, S, r, h.bind.imp (fun o e' h v B' H' S' T vl f => h σ B' H' S' vl.rp (Kp.refl _ _) f.weak) fun _ _ z => ExS.toE z⟩
theorem s_if {c : Expr} {a b : List Stmt} {t : M Bool} (hc : PT X c (tT X.K X.mg W t)) (ha : PSs X a (tS X.K X.mg W ks g1)) (hb : PSs X b (tS X.K X.mg W ks g2)) : PS X (.If c a b pos) (tS X.K X.mg W ks (sIf t g1 g2)) := ps_imp (ps_if hc ha hb) fun D σ H h => by
  obtain ⟨B, e, S, r, h⟩ := h
  refine ⟨B, e, S, r, h.bind.imp (fun b e' h B' H' S' r' f => ?_) fun _ _ z => ExS.toE z⟩
  cases b with
  | true => exact iteT ⟨B', e', S', r', (show Post (g1 e') (Nd X.K D ks B H S σ) _ from h).imp (fun fl e2 h => h.step (Kp.refl _ _) f) fun x e2 z => ExS.step z (Kp.refl _ _) f⟩
  | false => exact iteF ⟨B', e', S', r', (show Post (g2 e') (Nd X.K D ks B H S σ) _ from h).imp (fun fl e2 h => h.step (Kp.refl _ _) f) fun x e2 z => ExS.step z (Kp.refl _ _) f⟩
theorem Fr.sets {B H B' H' : Hp} {S : Nat → Addr → Prop} {S' : Nat → Addr → Prop} {T : Addr → Prop} {i n : Nat} (f : Fr B H (tot S) B' H' (fun a => T a ∨ tot S' a)) : Fr B H (tot S) B' H' (tot (fun j => if j = i then (if i < n then T else noS) else S' j)) :=
  f.imp (fun _ z => z) fun _ z => tot_set z
theorem s_set {i : Nat} {x : Str} {pos' : Pos} (hN : X.N.Nodup) (hi : X.N[i]? = some x) (hx : Loc X.env.scope x) (h : PE X e (tE X.K X.mg W f)) (hk : i ∉ ks := by decide) (hs : swapsWith e (some (.Name x pos')) pos.line X.env = pure false := by rfl) (hf : X.fn x = true ∨ X.env.scope.names.lookup x = some .local := by first | exact .inl rfl | exact .inr rfl | assumption) :
    PS X (.Assign [.Name x pos'] e pos) (tS X.K X.mg W ks (sSet i f)) := ps_imp (ps_set hN hi hx h hs hf) fun D σ H h => by
  obtain ⟨B, e, S, r, h⟩ := h
  refine ⟨B, e, S, r, h.bind.imp (fun o e' h v B' H' S' T vl f => ?_) fun _ _ z => ExS.toE z⟩
  exact h _ B' H' _ (vl.set i) (Kp.set hk) f.sets

/-! ## 7. Displays, slices -/
/-- the items of a display, each kept from now on -/
def tIs (K : PySem.W.Frag) (mg : Str → Option Value) (W : WX) : List (M O) → TA
  | [] => tNil
  | f :: fs => tCons (tE K mg W f) (tIs K mg W fs)
theorem items_run {K : PySem.W.Frag} {mg : Str → Option Value} {W : WX} {σ : St} : ∀ (fs : List (M O)) {B H : Hp} {e : Sl} {S : Nat → Addr → Prop} (Q : List V → Hp → Prop), Rp K B H σ e S →
    Post (items fs e) (fun ds e' => ∀ vs B' H' S', Rp K B' H' σ e' S' → RepL K B' vs ds → Fr B H (tot S) B' H' (tot S') → Q vs H') (fun x e' => ExE K mg W B H S σ x e') → tIs K mg W fs σ H Q
  | [], B, H, e, S, Q, r, h => h [] B H S r .nil (Fr.refl _ _ _)
  | f :: fs, B, H, e, S, Q, r, h => by
    unfold items at h
    refine ⟨B, e, S, r, h.bind.imp (fun o e1 h v B1 H1 S1 T vl f1 => ?_) fun _ _ z => z⟩
    obtain ⟨B2, vl2, f2⟩ := vl.freeze
    have f3 : Fr B H (tot S) B2 H1 (tot S1) := f1.trans ⟨f2.b, fun a o q _ => q, fun a z => .inl (.inr z), fun a u q => (f2.c a u q).elim .inl fun z => .inr (z.elim (fun z => .inl (.inl z)) .inr), fun a o q => ⟨o, q⟩⟩
    refine items_run fs _ vl2.rp (h.bind.imp (fun ds e' h vs B' H' S' r' rl f4 => ?_) fun x e' z => z.step f3)
    have h' : ∀ vs B' H' S', Rp K B' H' σ e' S' → RepL K B' vs (o.d :: ds) → Fr B H (tot S) B' H' (tot S') → Q vs H' := h
    exact h' _ B' H' S' r' (.cons (vl2.ro.1.mono f4.b) rl) (f3.trans f4)
theorem is_n : PA X [] (tIs X.K X.mg W []) := pa_nil
theorem is_c {es : List Expr} {fs : List (M O)} (h : PE X e (tE X.K X.mg W f)) (hr : PA X es (tIs X.K X.mg W fs)) (hs : starEach (e :: es) X.env = (false, eval e X.env) :: starEach es X.env := by rfl) : PA X (e :: es) (tIs X.K X.mg W (f :: fs)) := pa_cons h hr hs
theorem small_items : ∀ (fs : List (M O)) (e : Sl) (ds : List D) (e' : Sl), items fs e = some (.ok ds e') → ds.length = fs.length
  | [], e, ds, e', h => by cases h; rfl
  | f :: fs, e, ds, e', h => by
    unfold items M.bind at h
    cases q : f e with
    | none => rw [q] at h; cases h
    | some r =>
      cases r with
      | ex x e1 => rw [q] at h; cases h
      | ok o e1 =>
        rw [q] at h
        dsimp only [M.bind] at h
        cases q2 : items fs e1 with
        | none => rw [q2] at h; cases h
        | some r2 =>
          cases r2 with
          | ex x e2 => rw [q2] at h; cases h
          | ok ds2 e3 =>
            rw [q2] at h
            have q3 := small_items fs e1 ds2 e3 q2
            cases h
            rw [List.length_cons, List.length_cons, q3]
theorem RepL.len_of {K : PySem.W.Frag} {B : Hp} {vs : List V} {ds : List D} {n : Nat} (h : RepL K B vs ds) (e : ds.length = n) (hn : n ≤ 1000) : vs.length ≤ sizeLine := by
  rw [h.length, e]
  exact Nat.le_trans hn (by decide)
theorem post_len {fs : List (M O)} {e : Sl} {ok : List D → Sl → Prop} {ex : Exn → Sl → Prop} (h : Post (items fs e) ok ex) : Post (items fs e) (fun ds e' => ok ds e' ∧ ds.length = fs.length) ex := by
  cases q : items fs e with
  | none => rw [q] at h; exact h
  | some r =>
    rw [q] at h
    cases r with
    | ex x e1 => exact h
    | ok ds e1 => exact ⟨h, small_items fs e ds e1 q⟩
theorem d_tup {es : List Expr} {fs : List (M O)} {x1} (h : PA X es (tIs X.K X.mg W fs)) (hn : fs.length ≤ 1000 := by decide) : PE X (.Tuple es x1 pos) (tE X.K X.mg W (eTup fs)) := pe_imp (pe_tup h) fun σ H Q h => by
  obtain ⟨B, e, S, r, h⟩ := h
  refine items_run fs _ r ((post_len h.bind).imp (fun ds e' h vs B' H' S' r' rl f => ⟨rl.len_of h.2 hn, fun p hp => ?_⟩) fun _ _ z => z)
  have h' : ∀ v B' H' S' T, Vl X.K B' H' σ e' S' v (.fr (.tup ds)) T → Fr B H (tot S) B' H' (fun a => T a ∨ tot S' a) → Q v H' := h.1
  exact (r'.giv fun v B2 H2 S2 T vl f2 => h' v B2 H2 S2 T vl (f.trans f2)).newT r'.ex rl hp
theorem d_lst {es : List Expr} {fs : List (M O)} (h : PA X es (tIs X.K X.mg W fs)) (hn : fs.length ≤ 1000 := by decide) : PE X (.List es pos) (tE X.K X.mg W (eLst fs)) := pe_imp (pe_lst h) fun σ H Q h => by
  obtain ⟨B, e, S, r, h⟩ := h
  refine items_run fs _ r ((post_len h.bind).imp (fun ds e' h vs B' H' S' r' rl f => ⟨rl.len_of h.2 hn, fun p hp => ?_⟩) fun _ _ z => z)
  have h' : ∀ v B' H' S' T, Vl X.K B' H' σ e' S' v (.lst ds) T → Fr B H (tot S) B' H' (fun a => T a ∨ tot S' a) → Q v H' := h.1
  exact (r'.giv fun v B2 H2 S2 T vl f2 => h' v B2 H2 S2 T vl (f.trans f2)).newL r'.ex rl hp
end

/-! ## 8. What is walked -/
/-- frozen data walked: item by item, new objects at most -/
def WalkD (K : PySem.W.Frag) (J : It) (B : Hp) (ds : List D) : Prop := ∃ (G : Hp → Prop) (Y : Nat → Hp → V → Hp → Prop), Walk J ds.length G Y ∧ (∀ H, Ex B H → G H) ∧
  ∀ i H x H' B1, i < ds.length → Ex B B1 → Ex B1 H → Y i H x H' → ∃ B2 d, Gr B1 H B2 H' ∧ ds[i]? = some d ∧ Rep K B2 x d
def tSrc (K : PySem.W.Frag) (mg : Str → Option Value) (W : WX) (src : M (List D)) : TI := fun σ H R => ∃ B e S, Rp K B H σ e S ∧ Post (src e)
  (fun ds e' => ∀ J B' H' S', Rp K B' H' σ e' S' → Fr B H (tot S) B' H' (tot S') → WalkD K J B' ds → R J H') (fun x e' => ExE K mg W B H S σ x e')
theorem pi_imp {X : Cx} {tg e : Expr} {t t' : TI} (h : PI X tg e t) (i : ∀ σ H R, t' σ H R → t σ H R) : PI X tg e t' := ⟨fun pins s σ H R I q => h.run pins s σ H R I (i σ H R q)⟩
/-- a target: names, or a tuple of names -/
inductive Tg where
  | n (i : Nat) | t (is : List Nat)
def setAll : List Nat → List D → Sl → Option Sl
  | [], [], e => some e
  | i :: is, d :: ds, e => setAll is ds (e.set i (some (.fr d)))
  | _, _, _ => none
def Tg.go : Tg → D → Sl → Option Sl
  | .n i, d, e => some (e.set i (some (.fr d)))
  | .t is, .tup ds, e => setAll is ds e
  | _, _, _ => none
def Tg.ix : Tg → List Nat
  | .n i => [i]
  | .t is => is
def tTgs : List Nat → TGs
  | [] => gNil
  | i :: is => gCons (gName i) (tTgs is)
def tTg (K : PySem.W.Frag) : Tg → TG
  | .n i => gName i
  | .t is => gTup K is.length (tTgs is)
theorem setAll_run {K : PySem.W.Frag} {B H : Hp} {ks : List Nat} : ∀ (is : List Nat) (vs : List V) (ds : List D) {σ : St} {e e' : Sl} {S : Nat → Addr → Prop} (Q : St → Hp → Prop), Rp K B H σ e S → RepL K B vs ds → setAll is ds e = some e' → (∀ i ∈ is, i ∉ ks) →
    (∀ σ' S', Rp K B H σ' e' S' → Kp ks σ σ' → (∀ a, tot S' a → tot S a) → (∀ j, j ∉ is → σ'[j]? = σ[j]?) → Q σ' H) → tTgs is vs σ H Q
  | [], [], [], σ, e, e', S, Q, r, rl, h, hk, q => by
    cases h
    exact ⟨rfl, q σ S r (Kp.refl _ _) (fun _ z => z) fun _ _ => rfl⟩
  | [], _ :: _, _ :: _, _, _, _, _, _, _, _, h, _, _ => by cases h
  | [], [], _ :: _, _, _, _, _, _, _, rl, h, _, _ => by cases rl
  | [], _ :: _, [], _, _, _, _, _, _, rl, h, _, _ => by cases rl
  | _ :: _, _, [], _, _, _, _, _, _, _, h, _, _ => by cases h
  | _ :: _, [], _ :: _, _, _, _, _, _, _, rl, _, _, _ => by cases rl
  | i :: is, v :: vs, d :: ds, σ, e, e', S, Q, r, .cons hv rl, h, hk, q => by
    refine ⟨v, vs, rfl, setAll_run is vs ds (K := K) (B := B) (ks := ks) Q ((Vl.fr r hv).set i) rl h (fun j hj => hk j (List.mem_cons_of_mem _ hj)) fun σ' S' r' k' t' n' => ?_⟩
    refine q σ' S' r' ((Kp.set (hk i List.mem_cons_self)).trans k') (fun a z => ?_) fun j hj => ?_
    · exact (tot_set (t' a z)).elim (fun z => z.elim) id
    · rw [List.mem_cons, not_or] at hj
      rw [n' j hj.2, List.getElem?_set_ne (Ne.symm hj.1)]
theorem setAll_len : ∀ (is : List Nat) (ds : List D) {e e' : Sl}, setAll is ds e = some e' → ds.length = is.length
  | [], [], _, _, _ => rfl
  | [], _ :: _, _, _, h => by cases h
  | _ :: _, [], _, _, h => by cases h
  | i :: is, d :: ds, e, e', h => by
    rw [List.length_cons, List.length_cons, setAll_len is ds (e := e.set i (some (.fr d))) h]
theorem tg_run {K : PySem.W.Frag} {B H : Hp} {ks : List Nat} {tg : Tg} {v : V} {d : D} {σ : St} {e e' : Sl} {S : Nat → Addr → Prop} {Q : St → Hp → Prop} (r : Rp K B H σ e S) (hv : Rep K B v d) (h : tg.go d e = some e') (hk : ∀ i ∈ tg.ix, i ∉ ks)
    (q : ∀ σ' S', Rp K B H σ' e' S' → Kp ks σ σ' → (∀ a, tot S' a → tot S a) → (∀ j, j ∉ tg.ix → σ'[j]? = σ[j]?) → Q σ' H) : tTg K tg v σ H Q := by
  cases tg with
  | n i =>
    cases h
    refine q _ _ ((Vl.fr r hv).set i) (Kp.set (hk i List.mem_cons_self)) (fun a z => (tot_set z).elim (fun z => z.elim) id) fun j hj => ?_
    rw [List.getElem?_set_ne]
    intro z
    exact hj (by rw [z]; exact List.mem_cons_self)
  | t is =>
    cases d with
    | tup ds =>
      have h' : setAll is ds e = some e' := h
      cases hv with
      | tup hq rl =>
        have hl : ds.length = is.length := by
          exact setAll_len is ds h'
        exact ⟨_, _, rfl, Evl.ex_t r.ex hq, rl.length.trans hl, setAll_run is _ ds Q r rl h' hk q⟩
    | _ => cases h

def forL (tg : Tg) (body : M Fl) : List D → M Fl
  | [] => M.pure .next
  | d :: ds => fun e => match tg.go d e with
    | none => none
    | some e1 => match body e1 with
      | none => none
      | some (.ex x e') => some (.ex x e')
      | some (.ok fl e') => match fl with
        | .next => forL tg body ds e'
        | .cnt => forL tg body ds e'
        | .brk => some (.ok .next e')
        | .ret o => some (.ok (.ret o) e')
def sFor (src : M (List D)) (tg : Tg) (body : M Fl) : M Fl := src.bind fun ds => forL tg body ds
def whL (c : M Bool) (body : M Fl) : Nat → M Fl
  | 0 => M.stuck
  | n + 1 => c.bind fun b => if b then (fun e => match body e with
      | none => none
      | some (.ex x e') => some (.ex x e')
      | some (.ok fl e') => match fl with
        | .next => whL c body n e'
        | .cnt => whL c body n e'
        | .brk => some (.ok .next e')
        | .ret o => some (.ok (.ret o) e')) else M.pure .next

section
variable {X : Cx} {W : WX} {ks : List Nat} {g : M Fl} {pos : Pos} {tg : Tg} {src : M (List D)}
theorem s_for {iter target : Expr} {body : List Stmt} (hp : PassesOwn (model X.prog X.w) X.A X.env X.xe) (hc : X.calm = true) (hi : PI X target iter (tSrc X.K X.mg W src)) (hg : PG X target (tTg X.K tg)) (hb : PSs X body (tS X.K X.mg W ks g)) (hk : ∀ i ∈ tg.ix, i ∉ ks)
    (hs : ∀ x, foldedSetIterable iter X.env x = pure x := by intro _; rfl) : PS X (.For target iter body [] pos) (tS X.K X.mg W ks (sFor src tg g)) := ps_imp (ps_for hp hc hi hg hb hs) fun D σ H h => by
  obtain ⟨B, e, S, r, h⟩ := h
  refine ⟨B, e, S, r, h.bind.imp (fun ds e1 h J B1 H1 S1 r1 f1 wd => ?_) fun _ _ z => ExS.toE z⟩
  obtain ⟨G, Y, wk, hG, hY⟩ := wd
  have h0 : Post (forL tg g ds e1) (Nd X.K D ks B H S σ) (ExS X.K X.mg W ks B H S σ) := h
  refine for_it wk (fun i σ' H' => ∃ B' e' S', Rp X.K B' H' σ' e' S' ∧ Kp ks σ σ' ∧ Fr B H (tot S) B' H' (tot S') ∧ Ex B1 B' ∧ Post (forL tg g (ds.drop i) e') (Nd X.K D ks B H S σ) (ExS X.K X.mg W ks B H S σ)) ⟨B1, e1, S1, r1, Kp.refl _ _, f1, Ex.refl _, h0⟩ (fun i σ' H' hi ⟨B', e', S', r', k', f', x', h'⟩ => hG _ (x'.trans r'.ex)) (fun i x σ' H' H2 hi ⟨B', e', S', r', k', f', x', h'⟩ hy => ?_) fun σ' H' ⟨B', e', S', r', k', f', x', h'⟩ => ?_
  · obtain ⟨B2, d, gr, hd, rv⟩ := hY i H' x H2 B' hi x' r'.ex hy
    have ed : ds.drop i = d :: ds.drop (i + 1) := by
      rw [List.drop_eq_getElem_cons hi]
      rw [List.getElem?_eq_getElem hi] at hd
      cases hd
      rfl
    rw [ed] at h'
    unfold forL at h'
    cases q : tg.go d e' with
    | none => rw [q] at h'; exact h'.elim
    | some e2 =>
      rw [q] at h'
      have r2 := r'.grow gr
      refine tg_run (ks := ks) r2 rv q hk fun σ3 S3 r3 k3 t3 _ => ?_
      have f3 : Fr B H (tot S) B2 H2 (tot S3) := (f'.trans (gr.fr (tot S'))).imp (fun _ z => z) t3
      refine ⟨B2, e2, S3, r3, ?_⟩
      cases qb : g e2 with
      | none => simp only [qb] at h'; exact h'.elim
      | some rr =>
        cases rr with
        | ex x2 e4 =>
          simp only [qb] at h'
          exact ExS.step h' (k'.trans k3) f3
        | ok fl e4 =>
          simp only [qb] at h'
          cases fl with
          | next => exact fun σ4 B4 H4 S4 r4 k4 f4 => ⟨B4, e4, S4, r4, (k'.trans k3).trans k4, f3.trans f4, (x'.trans gr.b).trans f4.b, h'⟩
          | cnt => exact fun σ4 B4 H4 S4 r4 k4 f4 => ⟨B4, e4, S4, r4, (k'.trans k3).trans k4, f3.trans f4, (x'.trans gr.b).trans f4.b, h'⟩
          | brk => exact fun σ4 B4 H4 S4 r4 k4 f4 => (show Nd X.K D ks B H S σ .next e4 from h') σ4 B4 H4 S4 r4 ((k'.trans k3).trans k4) (f3.trans f4)
          | ret o => exact fun v σ4 B4 H4 S4 T4 vl k4 f4 => (show Nd X.K D ks B H S σ (.ret o) e4 from h') v σ4 B4 H4 S4 T4 vl ((k'.trans k3).trans k4) (f3.trans f4)
  · rw [List.drop_length] at h'
    exact (show Nd X.K D ks B H S σ .next e' from h') σ' B' H' S' r' k' f'
theorem s_while {c : Expr} {body : List Stmt} {t : M Bool} (n : Nat) (hp : PassesOwn (model X.prog X.w) X.A X.env X.xe) (hc : PT X c (tT X.K X.mg W t)) (hb : PSs X body (tS X.K X.mg W ks g)) : PS X (.While c body [] pos) (tS X.K X.mg W ks (whL t g n)) := ps_imp (ps_while hp hc hb) fun D σ H h => by
  obtain ⟨B, e, S, r, h⟩ := h
  have h0 : Post (whL t g n e) (Nd X.K D ks B H S σ) (ExS X.K X.mg W ks B H S σ) := h
  refine ⟨fun m σ' H' => ∃ B' e' S', Rp X.K B' H' σ' e' S' ∧ Kp ks σ σ' ∧ Fr B H (tot S) B' H' (tot S') ∧ Post (whL t g m e') (Nd X.K D ks B H S σ) (ExS X.K X.mg W ks B H S σ), ⟨n, B, e, S, r, Kp.refl _ _, Fr.refl _ _ _, h0⟩, fun m σ' H' ⟨B', e', S', r', k', f', h'⟩ => ?_⟩
  cases m with
  | zero => exact h'.elim
  | succ m =>
    unfold whL at h'
    refine ⟨B', e', S', r', h'.bind.imp (fun b e2 h2 B2 H2 S2 r2 f2 => ?_) fun x e2 z => (ExS.step z k' f').toE⟩
    cases b with
    | false => exact iteF ((show Nd X.K D ks B H S σ .next e2 from h2) σ' B2 H2 S2 r2 k' (f'.trans f2))
    | true =>
      refine iteT ⟨fun σ4 H4 => ∃ m', m' < m + 1 ∧ ∃ B' e' S', Rp X.K B' H4 σ4 e' S' ∧ Kp ks σ σ4 ∧ Fr B H (tot S) B' H4 (tot S') ∧ Post (whL t g m' e') (Nd X.K D ks B H S σ) (ExS X.K X.mg W ks B H S σ), fun σ4 H4 ⟨m', hm, z⟩ => ⟨m', hm, z⟩, B2, e2, S2, r2, ?_⟩
      rw [if_pos rfl] at h2
      cases qb : g e2 with
      | none => simp only [qb] at h2; exact h2.elim
      | some rr =>
        cases rr with
        | ex x2 e4 =>
          simp only [qb] at h2
          exact ExS.step h2 k' (f'.trans f2)
        | ok fl e4 =>
          simp only [qb] at h2
          cases fl with
          | next => exact fun σ4 B4 H4 S4 r4 k4 f4 => ⟨m, Nat.lt_succ_self m, B4, e4, S4, r4, k'.trans k4, (f'.trans f2).trans f4, h2⟩
          | cnt => exact fun σ4 B4 H4 S4 r4 k4 f4 => ⟨m, Nat.lt_succ_self m, B4, e4, S4, r4, k'.trans k4, (f'.trans f2).trans f4, h2⟩
          | brk => exact fun σ4 B4 H4 S4 r4 k4 f4 => (show Nd X.K D ks B H S σ .next e4 from h2) σ4 B4 H4 S4 r4 (k'.trans k4) ((f'.trans f2).trans f4)
          | ret o => exact fun v σ4 B4 H4 S4 T4 vl k4 f4 => (show Nd X.K D ks B H S σ (.ret o) e4 from h2) v σ4 B4 H4 S4 T4 vl (k'.trans k4) ((f'.trans f2).trans f4)
end
end Dn

namespace Dn
open PySem L2
open Evl (Ex)

/-! ## 9. Defs and calls -/
inductive RF where
  | ok (o : O) (os : List O) | ex (x : Exn) (os : List O)
abbrev Fn := List O → Option RF
/-- the arguments: a slot handed on as it stands, or a value that is kept -/
def cops : List P → M (List O)
  | [] => M.pure []
  | .b i :: ps => fun e => match e[i]? with
    | some (some _) => (cops ps).bind (fun os e' => match e'[i]? with
      | some (some o) => some (.ok (o :: os) e')
      | _ => none) e
    | _ => none
  | .v f :: ps => f.bind fun o => (cops ps).bind fun os => M.pure (.fr o.d :: os)
/-- behind the call the slots that were handed on -/
def wb : List P → List O → Sl → Sl
  | .b i :: ps, o :: os, e => (wb ps os e).set i (some o)
  | .v _ :: ps, _ :: os, e => wb ps os e
  | _, _, e => e
def bs : List P → List Nat
  | [] => []
  | .b i :: ps => i :: bs ps
  | .v _ :: ps => bs ps
def eCall (F : Fn) (ps : List P) (dv : List D) : M O := (cops ps).bind fun os e => match F (os ++ dv.map .fr) with
  | none => none
  | some (.ok o os') => some (.ok o (wb ps os' e))
  | some (.ex x os') => some (.ex x (wb ps os' e))
def RetP (K : PySem.W.Frag) (mg : Str → Option Value) (B H : Hp) (S : Addr → Prop) (vs : List V) (Q : VK) (E : XK) : Option RF → Prop
  | none => False
  | some (.ok o os') => ∀ v B' H' S' T, os'.length = vs.length → Vl K B' H' (vs.map some) (os'.map some) S' v o T → Fr B H S B' H' (fun a => T a ∨ tot S' a) → Q v H'
  | some (.ex x os') => ∀ (C d : Addr) (fs : List (Str × V)) (B' H' : Hp) (S' : Nat → Addr → Prop), os'.length = vs.length → mg x.cls = some (.ref C) → Rp K B' H' (vs.map some) (os'.map some) S' → H' d = some (.xd fs) → XF K B' fs x.fs → H d = none → Fr B H S B' H' (tot S') → E (.ref C) (some d) H'
def spD (K : PySem.W.Frag) (mg : Str → Option Value) (n : Nat) (F : Fn) : Sp := fun vs H Q E => vs.length = n ∧ ∃ B os S, Rp K B H (vs.map some) (os.map some) S ∧ RetP K mg B H (tot S) vs Q E (F os)

section
variable {K : PySem.W.Frag} {mg : Str → Option Value} {W : WX} {B B' H H' : Hp} {v x y : V} {o : O} {d : D} {σ σ' : St} {e e' : Sl} {S S' : Nat → Addr → Prop} {T T' : Addr → Prop} {ks : List Nat}
theorem RepO.iff (h : RepO K B H v o T) (i : ∀ a, T a ↔ T' a) : RepO K B H v o T' := by
  cases o with
  | fr d => exact ⟨h.1, fun a z => h.2 a ((i a).mpr z)⟩
  | lst ds =>
    obtain ⟨p, xs, e, hp, hr, hs⟩ := h
    exact ⟨p, xs, e, hp, hr, fun a => (i a).symm.trans (hs a)⟩
  | dct kvs =>
    obtain ⟨p, kv, e, hp, hk, hr, hs⟩ := h
    exact ⟨p, kv, e, hp, hk, hr, fun a => (i a).symm.trans (hs a)⟩
  | ins c ns xs =>
    obtain ⟨p, C, dx, fs, e, hp, hc, hk, hr, hs⟩ := h
    exact ⟨p, C, dx, fs, e, hp, hc, hk, hr, fun a => (i a).symm.trans (hs a)⟩
  | exn a d x =>
    obtain ⟨e, hx, hs⟩ := h
    exact ⟨e, hx, fun a z => hs a ((i a).mpr z)⟩
/-- where an argument's own addresses come from -/
def argS (ps : List P) (S : Nat → Addr → Prop) : Nat → Addr → Prop := fun k a => ∃ i, ps[k]? = some (.b i) ∧ S i a
/-- the arguments, as they stand at the call -/
def ArgR (K : PySem.W.Frag) (B H : Hp) (σ : St) (S : Nat → Addr → Prop) : List P → List V → List O → Prop
  | [], [], [] => True
  | .b i :: ps, v :: vs, o :: os => σ[i]? = some (some v) ∧ RepO K B H v o (S i) ∧ ArgR K B H σ S ps vs os
  | .v _ :: ps, v :: vs, o :: os => RepO K B H v o noS ∧ ArgR K B H σ S ps vs os
  | _, _, _ => False
theorem cops_run : ∀ (ps : List P) {B H : Hp} {e : Sl} {S : Nat → Addr → Prop} (Q : List V → Hp → Prop), Rp K B H σ e S →
    Post (cops ps e) (fun os e' => ∀ vs B' H' S', Rp K B' H' σ e' S' → ArgR K B' H' σ S' ps vs os → Fr B H (tot S) B' H' (tot S') → Q vs H') (fun x e' => ExE K mg W B H S σ x e') → tPs K mg W ps σ H Q
  | [], B, H, e, S, Q, r, h => h [] B H S r trivial (Fr.refl _ _ _)
  | .b i :: ps, B, H, e, S, Q, r, h => by
    unfold cops at h
    cases q : e[i]? with
    | none => rw [q] at h; exact h.elim
    | some u =>
      cases u with
      | none => rw [q] at h; exact h.elim
      | some o0 =>
        rw [q] at h
        obtain ⟨v, hv, _⟩ := r.rep i o0 q
        refine ⟨v, hv, cops_run ps _ r (h.bind.imp (fun ds e' h vs B' H' S' r' rl f => ?_) fun _ _ z => z)⟩
        cases q' : e'[i]? with
        | none => rw [q'] at h; exact h.elim
        | some u' =>
          cases u' with
          | none => rw [q'] at h; exact h.elim
          | some o =>
            rw [q'] at h
            obtain ⟨v', hv', ro⟩ := r'.rep i o q'
            rw [hv] at hv'; cases hv'
            have h' : ∀ vs B' H' S', Rp K B' H' σ e' S' → ArgR K B' H' σ S' (.b i :: ps) vs (o :: ds) → Fr B H (tot S) B' H' (tot S') → Q vs H' := h
            exact h' _ B' H' S' r' ⟨hv, ro, rl⟩ f
  | .v f :: ps, B, H, e, S, Q, r, h => by
    unfold cops at h
    refine ⟨B, e, S, r, h.bind.imp (fun o e1 h v B1 H1 S1 T vl f1 => ?_) fun _ _ z => z⟩
    obtain ⟨B2, vl2, f2⟩ := vl.freeze
    have f3 : Fr B H (tot S) B2 H1 (tot S1) := f1.trans ⟨f2.b, fun a o q _ => q, fun a z => .inl (.inr z), fun a u q => (f2.c a u q).elim .inl fun z => .inr (z.elim (fun z => .inl (.inl z)) .inr), fun a o q => ⟨o, q⟩⟩
    refine cops_run ps _ vl2.rp (h.bind.imp (fun ds e' h vs B' H' S' r' rl f4 => ?_) fun x e' z => z.step f3)
    have h' : ∀ vs B' H' S', Rp K B' H' σ e' S' → ArgR K B' H' σ S' (.v f :: ps) vs (.fr o.d :: ds) → Fr B H (tot S) B' H' (tot S') → Q vs H' := h
    exact h' _ B' H' S' r' ⟨⟨vl2.ro.1.mono f4.b, fun _ z => z⟩, rl⟩ (f3.trans f4)
theorem ArgR.len : ∀ {ps : List P} {vs : List V} {os : List O}, ArgR K B H σ S ps vs os → vs.length = ps.length ∧ os.length = ps.length
  | [], [], [], _ => ⟨rfl, rfl⟩
  | .b i :: ps, v :: vs, o :: os, h => by
    obtain ⟨a, b⟩ := ArgR.len h.2.2
    exact ⟨by rw [List.length_cons, List.length_cons, a], by rw [List.length_cons, List.length_cons, b]⟩
  | .v _ :: ps, v :: vs, o :: os, h => by
    obtain ⟨a, b⟩ := ArgR.len h.2
    exact ⟨by rw [List.length_cons, List.length_cons, a], by rw [List.length_cons, List.length_cons, b]⟩
  | [], _ :: _, _, h => h.elim
  | [], [], _ :: _, h => h.elim
  | .b _ :: _, [], _, h => h.elim
  | .b _ :: _, _ :: _, [], h => h.elim
  | .v _ :: _, [], _, h => h.elim
  | .v _ :: _, _ :: _, [], h => h.elim
theorem ArgR.at : ∀ {ps : List P} {vs : List V} {os : List O} {k : Nat} {o : O}, ArgR K B H σ S ps vs os → os[k]? = some o → ∃ v, vs[k]? = some v ∧ RepO K B H v o (argS ps S k) ∧ ∀ i, ps[k]? = some (.b i) → σ[i]? = some (some v)
  | [], [], [], k, o, _, e => by simp at e
  | .b i :: ps, v :: vs, o' :: os, 0, o, h, e => by
    simp at e; subst e
    refine ⟨v, rfl, h.2.1.iff fun a => ⟨fun z => ⟨i, rfl, z⟩, fun ⟨j, hj, z⟩ => ?_⟩, fun j hj => ?_⟩
    · have hj' : some (P.b i) = some (P.b j) := hj
      cases hj'; exact z
    · have hj' : some (P.b i) = some (P.b j) := hj
      cases hj'; exact h.1
  | .v _ :: ps, v :: vs, o' :: os, 0, o, h, e => by
    simp at e; subst e
    refine ⟨v, rfl, h.1.iff fun a => ⟨fun z => z.elim, fun ⟨j, hj, z⟩ => ?_⟩, fun j hj => ?_⟩
    · cases hj
    · cases hj
  | .b i :: ps, v :: vs, o' :: os, k + 1, o, h, e => by
    obtain ⟨v', a, b, c⟩ := ArgR.at (k := k) h.2.2 (by simpa using e)
    exact ⟨v', by simpa using a, b, c⟩
  | .v _ :: ps, v :: vs, o' :: os, k + 1, o, h, e => by
    obtain ⟨v', a, b, c⟩ := ArgR.at (k := k) h.2 (by simpa using e)
    exact ⟨v', by simpa using a, b, c⟩
  | [], _ :: _, _, _, _, h, _ => h.elim
  | [], [], _ :: _, _, _, h, _ => h.elim
  | .b _ :: _, [], _, _, _, h, _ => h.elim
  | .b _ :: _, _ :: _, [], _, _, h, _ => h.elim
  | .v _ :: _, [], _, _, _, h, _ => h.elim
  | .v _ :: _, _ :: _, [], _, _, h, _ => h.elim
theorem bs_mem : ∀ {ps : List P} {k i : Nat}, ps[k]? = some (.b i) → i ∈ bs ps
  | .b j :: ps, 0, i, h => by
    have h' : some (P.b j) = some (P.b i) := h
    cases h'; exact List.mem_cons_self
  | .v _ :: _, 0, _, h => by cases h
  | .b j :: ps, k + 1, i, h => List.mem_cons_of_mem _ (bs_mem (ps := ps) (k := k) h)
  | .v _ :: ps, k + 1, i, h => bs_mem (ps := ps) (k := k) h
theorem bs_inj : ∀ {ps : List P} {k l i : Nat}, (bs ps).Nodup → ps[k]? = some (.b i) → ps[l]? = some (.b i) → k = l
  | .b j :: ps, 0, 0, _, _, _, _ => rfl
  | .b j :: ps, 0, l + 1, i, n, h1, h2 => by
    have h' : some (P.b j) = some (P.b i) := h1
    cases h'
    exact absurd (bs_mem (ps := ps) (k := l) h2) (List.nodup_cons.mp n).1
  | .b j :: ps, k + 1, 0, i, n, h1, h2 => by
    have h' : some (P.b j) = some (P.b i) := h2
    cases h'
    exact absurd (bs_mem (ps := ps) (k := k) h1) (List.nodup_cons.mp n).1
  | .b j :: ps, k + 1, l + 1, i, n, h1, h2 => congrArg (· + 1) (bs_inj (ps := ps) (List.nodup_cons.mp n).2 h1 h2)
  | .v _ :: ps, 0, _, _, _, h1, _ => by cases h1
  | .v _ :: ps, _ + 1, 0, _, _, _, h2 => by cases h2
  | .v _ :: ps, k + 1, l + 1, i, n, h1, h2 => congrArg (· + 1) (bs_inj (ps := ps) n h1 h2)
  | [], _, _, _, _, h, _ => by simp at h
theorem wb_length : ∀ (ps : List P) (os : List O) (e : Sl), (wb ps os e).length = e.length
  | .b i :: ps, o :: os, e => by unfold wb; rw [List.length_set, wb_length ps os e]
  | .v _ :: ps, _ :: os, e => by unfold wb; exact wb_length ps os e
  | [], _, _ => by unfold wb; rfl
  | .b _ :: _, [], _ => by unfold wb; rfl
  | .v _ :: _, [], _ => by unfold wb; rfl
theorem wb_at : ∀ {ps : List P} {os : List O} {e : Sl} {j : Nat} {o : O}, os.length = ps.length → (wb ps os e)[j]? = some (some o) → (∃ k : Nat, ps[k]? = some (P.b j) ∧ os[k]? = some o) ∨ ((∀ k : Nat, ps[k]? ≠ some (P.b j)) ∧ e[j]? = some (some o))
  | [], os, e, j, o, _, h => .inr ⟨fun k z => by simp at z, by unfold wb at h; exact h⟩
  | .b i :: ps, [], _, _, _, l, _ => by simp at l
  | .v _ :: ps, [], _, _, _, l, _ => by simp at l
  | .b i :: ps, o' :: os, e, j, o, l, h => by
    unfold wb at h
    by_cases hj : i = j
    · subst hj
      by_cases hl : i < (wb ps os e).length
      · rw [List.getElem?_set_self hl] at h
        cases h
        exact .inl ⟨0, rfl, rfl⟩
      · rw [List.getElem?_eq_none (by rw [List.length_set]; omega)] at h; cases h
    · rw [List.getElem?_set_ne hj] at h
      rcases wb_at (ps := ps) (os := os) (by simpa using l) h with ⟨k, a, b⟩ | ⟨a, b⟩
      · exact .inl ⟨k + 1, a, b⟩
      · refine .inr ⟨fun k z => ?_, b⟩
        cases k with
        | zero =>
          have z' : some (P.b i) = some (P.b j) := z
          cases z'; exact hj rfl
        | succ k => exact a k z
  | .v _ :: ps, o' :: os, e, j, o, l, h => by
    unfold wb at h
    rcases wb_at (ps := ps) (os := os) (by simpa using l) h with ⟨k, a, b⟩ | ⟨a, b⟩
    · exact .inl ⟨k + 1, a, b⟩
    · refine .inr ⟨fun k z => ?_, b⟩
      cases k with
      | zero => cases z
      | succ k => exact a k z
/-- what the callee is handed -/
theorem ArgR.rp {ps : List P} {vs : List V} {os : List O} (h : ArgR K B H σ S ps vs os) (r : Rp K B H σ e S) (n : (bs ps).Nodup) : Rp K B H (vs.map some) (os.map some) (argS ps S) := by
  obtain ⟨l1, l2⟩ := h.len
  refine ⟨by rw [List.length_map, List.length_map, l1, l2], r.ex, fun k o ho => ?_, fun k l a ⟨i, h1, h2⟩ ⟨j, h3, h4⟩ => ?_, fun k a ⟨i, h1, h2⟩ => r.own i a h2⟩
  · rw [List.getElem?_map] at ho
    obtain ⟨o', ho, eo⟩ := Option.map_eq_some_iff.mp ho
    cases eo
    obtain ⟨v, a, b, _⟩ := h.at ho
    exact ⟨v, by rw [List.getElem?_map, a]; rfl, b⟩
  · obtain rfl := r.dis i j a h2 h4
    exact bs_inj n h1 h3
theorem tot_argS {ps : List P} {a : Addr} (h : tot (argS ps S) a) : tot S a := let ⟨_, i, _, z⟩ := h; ⟨i, z⟩
/-- behind the call: the slots handed on as the callee left them, the others as they were -/
def retS (ps : List P) (S S1 : Nat → Addr → Prop) : Nat → Addr → Prop := fun j a => (∃ k : Nat, ps[k]? = some (P.b j) ∧ S1 k a) ∨ ((∀ k : Nat, ps[k]? ≠ some (P.b j)) ∧ S j a)
theorem back_rp {ps : List P} {vs : List V} {os os' : List O} {B1 H1 : Hp} {S1 : Nat → Addr → Prop} {T : Addr → Prop} (h : ArgR K B H σ S ps vs os) (r : Rp K B H σ e S) (n : (bs ps).Nodup) (l : os'.length = ps.length)
    (r1 : Rp K B1 H1 (vs.map some) (os'.map some) S1) (f : Fr B H (tot (argS ps S)) B1 H1 (fun a => T a ∨ tot S1 a)) :
    Rp K B1 H1 σ (wb ps os' e) (retS ps S S1) ∧ Fr B H (tot S) B1 H1 (fun a => T a ∨ tot (retS ps S S1) a) ∧ ∀ a, T a → (∀ k, ¬ S1 k a) → ¬ tot (retS ps S S1) a := by
  obtain ⟨l1, l2⟩ := h.len
  have fr0 : ∀ j : Nat, (∀ k : Nat, ps[k]? ≠ some (P.b j)) → ∀ a, S j a → ¬ tot (argS ps S) a := fun j hj a ha ⟨k, i, h1, h2⟩ => by
    obtain rfl := r.dis j i a ha h2
    exact hj k h1
  have nt : ∀ j : Nat, (∀ k : Nat, ps[k]? ≠ some (P.b j)) → ∀ a, S j a → ¬ (T a ∨ tot S1 a) := fun j hj a ha z => by
    rcases f.n a z with y | y
    · exact fr0 j hj a ha y
    · obtain ⟨_, u, hu⟩ := r.own j a ha
      rw [hu] at y; cases y
  refine ⟨⟨by rw [wb_length]; exact r.len, r1.ex, fun j o ho => ?_, fun i j a h1 h2 => ?_, fun j a h1 => ?_⟩, ⟨f.b, fun a o q hs => f.k a o q fun z => hs (tot_argS z), fun a z => ?_, fun a o q => (f.c a o q).elim .inl fun z => .inr (z.elim (fun z => .inl (tot_argS z)) .inr), f.a⟩, fun a ht hn ⟨j, z⟩ => ?_⟩
  · rcases wb_at l ho with ⟨k, a, b⟩ | ⟨a, b⟩
    · obtain ⟨v, hv, ro⟩ := r1.rep k o (by rw [List.getElem?_map, b]; rfl)
      rw [List.getElem?_map] at hv
      obtain ⟨v', hv, ev⟩ := Option.map_eq_some_iff.mp hv
      cases ev
      have hk : k < os.length := by
        have := (List.getElem?_eq_some_iff.mp b).1
        omega
      obtain ⟨v2, e1, _, e2⟩ := h.at (List.getElem?_eq_getElem hk)
      rw [hv] at e1; cases e1
      refine ⟨v, e2 j a, ro.iff fun x => ⟨fun z => .inl ⟨k, a, z⟩, fun z => ?_⟩⟩
      rcases z with ⟨k', a', z⟩ | ⟨a', z⟩
      · rw [bs_inj n a a']; exact z
      · exact absurd a (a' k)
    · obtain ⟨v, hv, ro⟩ := r.rep j o b
      obtain ⟨ro2, _, _⟩ := ro.frame (r.own j) (fr0 j a) f
      refine ⟨v, hv, ro2.iff fun x => ⟨fun z => .inr ⟨a, z⟩, fun z => ?_⟩⟩
      rcases z with ⟨k', a', z⟩ | ⟨a', z⟩
      · exact absurd a' (a k')
      · exact z
  · rcases h1 with ⟨k, a1, z1⟩ | ⟨a1, z1⟩ <;> rcases h2 with ⟨k', a2, z2⟩ | ⟨a2, z2⟩
    · obtain rfl := r1.dis k k' a z1 z2
      rw [a1] at a2; cases a2; rfl
    · exact absurd (.inr ⟨k, z1⟩) (nt j a2 a z2)
    · exact absurd (.inr ⟨k', z2⟩) (nt i a1 a z1)
    · exact r.dis i j a z1 z2
  · rcases h1 with ⟨k, a1, z1⟩ | ⟨a1, z1⟩
    · exact r1.own k a z1
    · obtain ⟨v, hv, ro⟩ : True ∧ True ∧ True := ⟨trivial, trivial, trivial⟩
      obtain ⟨b0, u, hu⟩ := r.own j a z1
      have hk := f.k a u hu (fr0 j a1 a z1)
      refine ⟨?_, u, hk⟩
      cases q : B1 a with
      | none => rfl
      | some w =>
        rcases f.c a w q with z | z | z
        · rw [b0] at z; cases z
        · exact absurd z (fr0 j a1 a z1)
        · rw [hu] at z; cases z
  · rcases z with z | ⟨j, z⟩
    · rcases f.n a (.inl z) with y | y
      · exact .inl (tot_argS y)
      · exact .inr y
    · rcases z with ⟨k, a1, z1⟩ | ⟨a1, z1⟩
      · rcases f.n a (.inr ⟨k, z1⟩) with y | y
        · exact .inl (tot_argS y)
        · exact .inr y
      · exact .inl ⟨j, z1⟩
  · rcases z with ⟨k, a1, z1⟩ | ⟨a1, z1⟩
    · exact hn k z1
    · exact nt j a1 a z1 (.inl ht)
/-- default values behind the written arguments -/
theorem ArgR.dv : ∀ {ps : List P} {vs : List V} {os : List O} {ws : List V} {ds : List D}, ArgR K B H σ S ps vs os → RepL K B ws ds → ArgR K B H σ S (ps ++ ds.map fun d => P.v (eC d)) (vs ++ ws) (os ++ ds.map O.fr)
  | [], [], [], [], [], _, .nil => trivial
  | [], [], [], _ :: _, _ :: _, h, .cons r rs => ⟨⟨r, fun _ z => z⟩, ArgR.dv (ps := []) (vs := []) (os := []) trivial rs⟩
  | .b i :: ps, v :: vs, o :: os, ws, ds, h, r => ⟨h.1, h.2.1, ArgR.dv h.2.2 r⟩
  | .v _ :: ps, v :: vs, o :: os, ws, ds, h, r => ⟨h.1, ArgR.dv h.2 r⟩
  | [], _ :: _, _, _, _, h, _ => h.elim
  | [], [], _ :: _, _, _, h, _ => h.elim
  | .b _ :: _, [], _, _, _, h, _ => h.elim
  | .b _ :: _, _ :: _, [], _, _, h, _ => h.elim
  | .v _ :: _, [], _, _, _, h, _ => h.elim
  | .v _ :: _, _ :: _, [], _, _, h, _ => h.elim
theorem bs_dv : ∀ (ps : List P) (ds : List D), bs (ps ++ ds.map fun d => P.v (eC d)) = bs ps
  | [], [] => rfl
  | [], d :: ds => by show bs (ds.map fun d => P.v (eC d)) = []; exact bs_dv [] ds
  | .b i :: ps, ds => congrArg (i :: ·) (bs_dv ps ds)
  | .v _ :: ps, ds => bs_dv ps ds
theorem wb_dv : ∀ (ps : List P) (ds : List D) (os : List O) (e : Sl), wb (ps ++ ds.map fun d => P.v (eC d)) os e = wb ps os e
  | [], [], os, e => rfl
  | [], d :: ds, [], e => rfl
  | [], d :: ds, o :: os, e => by
    show wb (ds.map fun d => P.v (eC d)) os e = e
    exact wb_dv [] ds os e
  | .b i :: ps, ds, [], e => rfl
  | .v _ :: ps, ds, [], e => rfl
  | .b i :: ps, ds, o :: os, e => by
    show (wb (ps ++ ds.map fun d => P.v (eC d)) os e).set i (some o) = (wb ps os e).set i (some o)
    rw [wb_dv ps ds os e]
  | .v _ :: ps, ds, o :: os, e => by
    show wb (ps ++ ds.map fun d => P.v (eC d)) os e = wb ps os e
    rw [wb_dv ps ds os e]
end

/-- a def of the module, by its name: what it computes -/
structure Cl (P : Program) (w : World) (K : PySem.W.Frag) (mg : Str → Option Value) (base : Heap) (k : Nat) (x : Str) (n : Nat) (F : Fn) (dv : List D) : Prop where
  ex : ∃ (f : Addr) (fd : FuncData) (ps : List Str) (ds : List Value) (dvs : List V), ps.length = n ∧ FnOk P w K mg base (L2.CX P w) k f fd ps (spD K mg ps.length F) ∧ mg x = some (.ref f) ∧ PySem.W.keepIn K (.ref f) = true ∧ Binds K fd ps ds ∧ Vals dvs ds ∧ ∀ B, RepL K B dvs dv
theorem Cl.mono {P : Program} {w : World} {K : PySem.W.Frag} {mg : Str → Option Value} {base : Heap} {k l n : Nat} {x : Str} {F : Fn} {dv : List D} (h : Cl P w K mg base k x n F dv) (hl : k ≤ l) : Cl P w K mg base l x n F dv := by
  obtain ⟨f, fd, ps, ds, dvs, h0, h1, h2⟩ := h.ex
  exact ⟨f, fd, ps, ds, dvs, h0, h1.mono hl, h2⟩
section
variable {X : Cx} {W : WX} {x : Str} {p pos : Pos} {e : Expr} {es : List Expr} {k j n : Nat} {F : Fn} {dv : List D} {ps : List P}
theorem call_core {H : Hp} {σ : St} {Q : VK} {dvs : List V} (hl : dvs.length = dv.length) (hn : n = ps.length + dv.length) (nd : (bs ps).Nodup) (hdv : ∀ B, RepL X.K B dvs dv) (h : tE X.K X.mg W (eCall F ps dv) σ H Q) :
    tPs X.K X.mg W ps σ H fun vs H1 => spD X.K X.mg n F (vs ++ dvs) H1 Q (WE W σ) := by
  obtain ⟨B, e, S, r, h⟩ := h
  refine cops_run ps _ r (h.bind.imp (fun os e' h vs B' H' S' r' ar f => ?_) fun _ _ z => z)
  have ar2 := ar.dv (hdv B')
  have nd2 : (bs (ps ++ dv.map fun d => P.v (eC d))).Nodup := by rw [bs_dv]; exact nd
  obtain ⟨l1, l2⟩ := ar2.len
  have lp : (ps ++ dv.map fun d => P.v (eC d)).length = ps.length + dv.length := by rw [List.length_append, List.length_map]
  refine ⟨by rw [l1, lp, hn], B', _, _, ar2.rp r' nd2, ?_⟩
  have h0 : Post (match F (os ++ dv.map .fr) with
    | none => none
    | some (.ok o os') => some (Ro.ok o (wb ps os' e'))
    | some (.ex x os') => some (.ex x (wb ps os' e'))) (fun o e' => ∀ v B' H' S' T, Vl X.K B' H' σ e' S' v o T → Fr B H (tot S) B' H' (fun a => T a ∨ tot S' a) → Q v H') (fun x e' => ExE X.K X.mg W B H S σ x e') := h
  cases q : F (os ++ dv.map .fr) with
  | none => rw [q] at h0; exact h0.elim
  | some rf =>
    rw [q] at h0
    cases rf with
    | ok o os' =>
      intro v B1 H1 S1 T lo vl f1
      have lo' : os'.length = (ps ++ dv.map fun d => P.v (eC d)).length := by rw [lo, l1]
      obtain ⟨r3, f3, dj⟩ := back_rp ar2 r' nd2 lo' vl.rp f1
      rw [wb_dv] at r3
      have h' : ∀ v B' H' S' T, Vl X.K B' H' σ (wb ps os' e') S' v o T → Fr B H (tot S) B' H' (fun a => T a ∨ tot S' a) → Q v H' := h0
      exact h' v B1 H1 _ T ⟨r3, vl.ro, vl.own, fun a ha => dj a ha fun k z => vl.dj a ha ⟨k, z⟩⟩ (f.trans f3)
    | ex x os' =>
      intro C d fs B1 H1 S1 lo hC r1 hd hf hdn f1
      have lo' : os'.length = (ps ++ dv.map fun d => P.v (eC d)).length := by rw [lo, l1]
      obtain ⟨r3, f3, _⟩ := back_rp (T := noS) ar2 r' nd2 lo' r1 (f1.imp (fun _ z => z) fun a z => z.elim (fun z => z.elim) id)
      rw [wb_dv] at r3
      have h' : ExE X.K X.mg W B H S σ x (wb ps os' e') := h0
      exact h' C d fs B1 H1 _ hC r3 hd hf (f.back hdn) ((f.trans f3).imp (fun _ z => z) fun _ z => .inr z)
theorem d_call (C : Cl X.prog X.w X.K X.mg X.base k x n F dv) (hr : Room j X.A) (tk : Takes X W) (ha : PA X (e :: es) (tPs X.K X.mg W ps)) (hk : k ≤ j := by decide) (hg : Gl X x := by rfl) (hn : n = ps.length + dv.length := by rfl) (nd : (bs ps).Nodup := by decide)
    (hdb : (x == ("__debug__" : Str)) = false := by decide) (he : starEach (e :: es) X.env = (false, eval e X.env) :: starEach es X.env := by rfl) (hpl : (backTo pos (starEach es X.env)).any (·.1) = false := by rfl) :
    PE X (.Call (.Name x p) (e :: es) [] pos) (tE X.K X.mg W (eCall F ps dv)) := by
  obtain ⟨f, fd, pn, ds, dvs, h0, h1, h2, h3, h4, h5, h6⟩ := C.ex
  have hl : dvs.length = dv.length := (h6 fun _ => none).length
  refine ⟨fun pins s σ H Q I h => ?_⟩
  refine (pe_callSD (t := tPs X.K X.mg W ps) (E := WE W) h1 (hr.mono hk) hg h2 h3 h4 h5 (fun σ => passAt tk σ) ha hdb he hpl).run pins s σ H Q I ?_
  exact call_core hl (h0.trans hn) nd h6 h
end
end Dn

namespace Dn
open PySem L2
open PyProof.Rows (envOfC)
open Evl (Ex)

/-! ## 10. A def by its body -/
/-- what the parameters hold behind the body: those of ks as they stand, the others as they came (frozen) -/
def finO (ks : List Nat) : Nat → List O → Sl → Option (List O)
  | _, [], _ => some []
  | k, o :: os, e => match (if k ∈ ks then (match e[k]? with | some (some o') => some o' | _ => none) else (match o with | .fr d => some (.fr d) | _ => none)) with
    | some o' => (finO ks (k + 1) os e).map (o' :: ·)
    | none => none
def mkF (m : Nat) (ks : List Nat) (g : M Fl) : Fn := fun os => match g (os.map some ++ List.replicate (m - os.length) none) with
  | some (.ok fl e') => match fl with
    | .ret o => (finO ks 0 os e').map (RF.ok o)
    | .next => (finO ks 0 os e').map (RF.ok (.fr .non))
    | _ => none
  | some (.ex x e') => (finO ks 0 os e').map (RF.ex x)
  | none => none
theorem finO_at {ks : List Nat} : ∀ {os : List O} {j : Nat} {e : Sl} {os' : List O}, finO ks j os e = some os' → os'.length = os.length ∧ ∀ k o', os'[k]? = some o' → (j + k ∈ ks ∧ e[j + k]? = some (some o')) ∨ (j + k ∉ ks ∧ os[k]? = some o' ∧ ∃ d, o' = .fr d)
  | [], j, e, os', h => by
    cases h
    exact ⟨rfl, fun k o' z => by simp at z⟩
  | o :: os, j, e, os', h => by
    unfold finO at h
    split at h
    · rename_i o1 h1
      obtain ⟨os1, h2, rfl⟩ := Option.map_eq_some_iff.mp h
      obtain ⟨l, at_⟩ := finO_at h2
      refine ⟨by rw [List.length_cons, List.length_cons, l], fun k o' z => ?_⟩
      cases k with
      | zero =>
        have z' : some o1 = some o' := z
        cases z'
        by_cases hj : j ∈ ks
        · rw [if_pos hj] at h1
          refine .inl ⟨hj, ?_⟩
          split at h1
          · rename_i o2 h3
            cases h1; exact h3
          · cases h1
        · rw [if_neg hj] at h1
          refine .inr ⟨hj, ?_⟩
          split at h1
          · cases h1; exact ⟨rfl, _, rfl⟩
          · cases h1
      | succ k =>
        have := at_ k o' z
        rw [show j + (k + 1) = j + 1 + k by omega]
        exact this
    · cases h
section
variable {P : Program} {w : World} {K : PySem.W.Frag} {mg : Str → Option Value} {base : Heap}
theorem fin_rp {B H : Hp} {vs : List V} {os os' : List O} {S : Nat → Addr → Prop} {ks : List Nat} {B' H' : Hp} {σ σ' : St} {e' : Sl} {S' : Nat → Addr → Prop} (r : Rp K B H (vs.map some) (os.map some) S) (hf : finO ks 0 os e' = some os') (hσ : ∀ k : Nat, k < vs.length → σ[k]? = (vs.map some)[k]?)
    (r' : Rp K B' H' σ' e' S') (k' : Kp ks σ σ') (hb : Ex B B') : os'.length = vs.length ∧ Rp K B' H' (vs.map some) (os'.map some) (fun k => if k ∈ ks then S' k else noS) := by
  obtain ⟨l, at_⟩ := finO_at hf
  have l2 : vs.length = os.length := by have := r.len; rwa [List.length_map, List.length_map] at this
  refine ⟨by omega, ⟨by rw [List.length_map, List.length_map]; omega, r'.ex, fun k o ho => ?_, fun i j a h1 h2 => ?_, fun i a h1 => ?_⟩⟩
  · rw [List.getElem?_map] at ho
    obtain ⟨o1, ho, e1⟩ := Option.map_eq_some_iff.mp ho
    cases e1
    have hk : k < vs.length := by have := (List.getElem?_eq_some_iff.mp ho).1; omega
    rcases at_ k o ho with ⟨a, b⟩ | ⟨a, b, d, rfl⟩
    · rw [Nat.zero_add] at a b
      obtain ⟨v, hv, ro⟩ := r'.rep k o b
      rw [k' k a, hσ k hk] at hv
      exact ⟨v, hv, by rw [if_pos a]; exact ro⟩
    · rw [Nat.zero_add] at a
      obtain ⟨v, hv, ro⟩ := r.rep k _ (show (os.map some)[k]? = some (some (O.fr d)) by rw [List.getElem?_map, b]; rfl)
      exact ⟨v, hv, by rw [if_neg a]; exact ⟨ro.1.mono hb, fun _ z => z⟩⟩
  · by_cases hi : i ∈ ks
    · by_cases hj : j ∈ ks
      · rw [if_pos hi] at h1; rw [if_pos hj] at h2; exact r'.dis i j a h1 h2
      · rw [if_neg hj] at h2; exact h2.elim
    · rw [if_neg hi] at h1; exact h1.elim
  · by_cases hi : i ∈ ks
    · rw [if_pos hi] at h1; exact r'.own i a h1
    · rw [if_neg hi] at h1; exact h1.elim
theorem tot_fin {ks : List Nat} {S' : Nat → Addr → Prop} {a : Addr} (h : tot (fun k => if k ∈ ks then S' k else noS) a) : tot S' a := by
  obtain ⟨k, h⟩ := h
  by_cases hk : k ∈ ks
  · rw [if_pos hk] at h; exact ⟨k, h⟩
  · rw [if_neg hk] at h; exact h.elim
/-- a def as it stands behind the top, its defaults aside -/
structure FunX (K : PySem.W.Frag) (x qual : Str) (st : Stmt) (f : Addr) (fd : FuncData) : Prop where
  ex : ∃ (oc : Value) (od : Option Addr) (dV kV doc pm : Value) (an : Option Addr) (cdv ct : Value) (osl : Array (Option Value)),
    fd = PySem.W.fnOf x qual (defArgs st) (defBody st) (defScope st) dV kV doc pm an cdv ct ∧ K.lookup f = some ⟨oc, od, .func fd, osl⟩ ∧ PySem.W.codeIn K cdv qual = true
theorem fun_x {x qual : Str} {st : Stmt} {f : Addr} {fd : FuncData} (F : Fun K x qual st f fd) : FunX K x qual st f fd := by
  obtain ⟨oc, od, kV, doc, pm, an, cdv, ct, osl, h⟩ := F.ex
  exact ⟨⟨oc, od, .none, kV, doc, pm, an, cdv, ct, osl, h⟩⟩
theorem FunX.okX {x qual : Str} {st : Stmt} {f : Addr} {fd : FuncData} {N ps : List Str} {k : Nat} {sp : Sp} (F : FunX K x qual st f fd) (S : FnScope N ps (defScope st)) (len : ∀ vs H Q E, sp vs H Q E → vs.length = ps.length)
    (hbody : ∀ (cdv : Value) (A : Around) (outer : List PySem.Env) (s : Shared) (H : Hp) (vs : List V) (Q : VK) (E : XK), Room k (A.deeper (envOfC qual (defScope st) s.heap.objs.size f cdv)) → sp vs H Q E →
      ∃ t, PSs (cxOf (L2.CX P w) P w K mg base N qual (defScope st) f cdv A outer s H E) (defBody st) t ∧ t { nx := fun _ H' => Q .non H', rt := Q } (start N vs) H) : FnOk P w K mg base (L2.CX P w) (k + 1) f fd ps sp := by
  obtain ⟨oc, od, dV, kV, doc, pm, an, cdv, ct, osl, rfl, lk, hcd⟩ := F.ex
  exact fn_of lk hcd S len fun A outer s H vs Q E hr hsp => hbody cdv A outer s H vs Q E hr hsp
/-- THE RULE of a def -/
theorem fn_den {x qual : Str} {st : Stmt} {f : Addr} {fd : FuncData} {N ps : List Str} {k : Nat} {ks : List Nat} {g : M Fl} (F : FunX K x qual st f fd) (Sc : FnScope N ps (defScope st))
    (hb : ∀ (cdv : Value) (A : Around) (outer : List PySem.Env) (s : Shared) (H : Hp) (E : XK), Room k (A.deeper (envOfC qual (defScope st) s.heap.objs.size f cdv)) →
      Takes (cxOf (L2.CX P w) P w K mg base N qual (defScope st) f cdv A outer s H E) (fun cls d _ H => E cls d H) →
      PassesOwn (model P w) (A.deeper (envOfC qual (defScope st) s.heap.objs.size f cdv)) (envOfC qual (defScope st) s.heap.objs.size f cdv) (cxOf (L2.CX P w) P w K mg base N qual (defScope st) f cdv A outer s H E).xe →
      PSs (cxOf (L2.CX P w) P w K mg base N qual (defScope st) f cdv A outer s H E) (defBody st) (tS K mg (fun cls d _ H => E cls d H) ks g)) :
    FnOk P w K mg base (L2.CX P w) (k + 1) f fd ps (spD K mg ps.length (mkF N.length ks g)) := by
  refine F.okX Sc (fun vs H Q E h => h.1) (fun cdv A outer s H vs Q E hr h => ⟨_, hb cdv A outer s H E hr (takes_of rfl rfl rfl rfl) (passes_of rfl), ?_⟩)
  obtain ⟨hl, B, os, S, r, h⟩ := h
  have l2 : vs.length = os.length := by have := r.len; rwa [List.length_map, List.length_map] at this
  have hpl : ps.length ≤ N.length := by have := congrArg List.length Sc.pre; rw [List.length_take] at this; omega
  have hσ : ∀ k : Nat, k < vs.length → (L2.start N vs)[k]? = (vs.map some)[k]? := fun k hk => by
    unfold L2.start
    rw [List.getElem?_append_left (by rw [List.length_map]; exact hk)]
  have r0 : Rp K B H (L2.start N vs) (os.map some ++ List.replicate (N.length - os.length) none) S := by
    refine ⟨by unfold L2.start; rw [List.length_append, List.length_append, List.length_map, List.length_map, List.length_replicate, List.length_replicate]; omega, r.ex, fun i o ho => ?_, r.dis, r.own⟩
    by_cases hi : i < os.length
    · rw [List.getElem?_append_left (by rw [List.length_map]; exact hi)] at ho
      obtain ⟨v, a, b⟩ := r.rep i o ho
      exact ⟨v, by rw [hσ i (by omega)]; exact a, b⟩
    · rw [List.getElem?_append_right (by rw [List.length_map]; omega), List.length_map, List.getElem?_replicate] at ho
      split at ho <;> cases ho
  refine ⟨B, _, S, r0, ?_⟩
  unfold mkF at h
  cases q : g (os.map some ++ List.replicate (N.length - os.length) none) with
  | none => rw [q] at h; exact h.elim
  | some ro =>
    rw [q] at h
    cases ro with
    | ex x e' =>
      dsimp only at h
      cases qf : finO ks 0 os e' with
      | none => rw [qf] at h; exact h.elim
      | some os' =>
        rw [qf] at h
        intro C d fs σ' B' H' S' hC r' hd hx hdn k' f'
        obtain ⟨l3, r2⟩ := fin_rp r qf hσ r' k' f'.b
        exact (show RetP K mg B H (tot S) vs Q E (some (.ex x os')) from h) C d fs B' H' _ l3 hC r2 hd hx hdn (f'.imp (fun _ z => z) fun _ z => tot_fin z)
    | ok fl e' =>
      cases fl with
      | brk => exact h.elim
      | cnt => exact h.elim
      | next =>
        dsimp only at h
        cases qf : finO ks 0 os e' with
        | none => rw [qf] at h; exact h.elim
        | some os' =>
          rw [qf] at h
          intro σ' B' H' S' r' k' f'
          obtain ⟨l3, r2⟩ := fin_rp r qf hσ r' k' f'.b
          exact (show RetP K mg B H (tot S) vs Q E (some (.ok (.fr .non) os')) from h) .non B' H' _ noS l3 (.fr r2 .non) (f'.imp (fun _ z => z) fun _ z => z.elim (fun z => z.elim) tot_fin)
      | ret o =>
        dsimp only at h
        cases qf : finO ks 0 os e' with
        | none => rw [qf] at h; exact h.elim
        | some os' =>
          rw [qf] at h
          intro v σ' B' H' S' T vl k' f'
          obtain ⟨l3, r2⟩ := fin_rp r qf hσ vl.rp k' f'.b
          exact (show RetP K mg B H (tot S) vs Q E (some (.ok o os')) from h) v B' H' _ T l3 ⟨r2, vl.ro, vl.own, fun a ha z => vl.dj a ha (tot_fin z)⟩ (f'.imp (fun _ z => z) fun _ z => z.elim .inl fun z => .inr (tot_fin z))
end

/-! ## 11. Data as the library has it -/
mutual
def D.py : D → PyData
  | .non => .none
  | .bl b => .bool b
  | .int i => .int i
  | .str s => .str s
  | .lst xs => .list (D.pys xs)
  | .tup xs => .tuple (D.pys xs)
  | .scr ns => .list (ns.map PyData.int)
  | .opq => .str ⟨#[1114112]⟩
  | .dct _ _ => .str ⟨#[1114112]⟩
  | .ins _ _ _ => .str ⟨#[1114112]⟩
def D.pys : List D → List PyData
  | [] => []
  | x :: xs => x.py :: D.pys xs
end
mutual
/-- all of it is known -/
def D.nx : D → Bool
  | .non => true
  | .bl _ => true
  | .int _ => true
  | .str _ => true
  | .lst xs => D.nxs xs
  | .tup xs => D.nxs xs
  | .scr _ => true
  | .opq => false
  | .dct _ _ => false
  | .ins _ _ _ => false
def D.nxs : List D → Bool
  | [] => true
  | x :: xs => D.nx x && D.nxs xs
end
mutual
theorem D.nx_of : ∀ {d : D}, d.py.canLay0 = true → d.nx = true
  | .non, _ => rfl
  | .bl _, _ => rfl
  | .int _, _ => rfl
  | .str _, _ => rfl
  | .lst xs, h => by rw [D.nx]; exact D.nxs_of (by rw [D.py] at h; exact h)
  | .tup xs, h => by rw [D.nx]; exact D.nxs_of (by rw [D.py] at h; exact h)
  | .scr _, _ => rfl
  | .opq, h => by
    have : PyData.canLay0 (.str ⟨#[1114112]⟩) = false := by decide +kernel
    rw [D.py, this] at h
    cases h
  | .dct _ _, h => by
    have : PyData.canLay0 (.str ⟨#[1114112]⟩) = false := by decide +kernel
    rw [D.py, this] at h
    cases h
  | .ins _ _ _, h => by
    have : PyData.canLay0 (.str ⟨#[1114112]⟩) = false := by decide +kernel
    rw [D.py, this] at h
    cases h
theorem D.nxs_of : ∀ {ds : List D}, PyData.canLayAll0 (D.pys ds) = true → D.nxs ds = true
  | [], _ => rfl
  | x :: xs, h => by
    rw [D.pys] at h
    have h' : (x.py.canLay0 && PyData.canLayAll0 (D.pys xs)) = true := h
    rw [Bool.and_eq_true] at h'
    rw [D.nxs, D.nx_of h'.1, D.nxs_of h'.2]; rfl
end
theorem D.pys_map : ∀ xs : List D, D.pys xs = xs.map D.py
  | [] => rfl
  | x :: xs => by rw [D.pys, List.map_cons, D.pys_map xs]
section
variable {K : PySem.W.Frag} {B H : Hp}
theorem dp_ints : ∀ ns : List Int, DpAll K H (ns.map V.int) (ns.map PyData.int)
  | [] => .nil
  | n :: ns => .cons (.int n) (dp_ints ns)
mutual
theorem Rep.dp : ∀ {v : V} {d : D}, Rep K H v d → d.nx = true → Dp K H v d.py
  | _, _, .non, _ => by rw [D.py]; exact .non
  | _, _, .bl b, _ => by rw [D.py]; exact .bl b
  | _, _, .int i, _ => by rw [D.py]; exact .int i
  | _, _, .str x, _ => by rw [D.py]; exact .str x
  | _, _, .lst h hs, n => by rw [D.py]; exact .lst (Evl.sq_of h) (RepL.dp hs (by rw [D.nx] at n; exact n))
  | _, _, .tup h hs, n => by rw [D.py]; exact .tup h (RepL.dp hs (by rw [D.nx] at n; exact n))
  | _, _, .scr h, _ => by rw [D.py]; exact .lst h (dp_ints _)
  | _, _, .opq _, n => by rw [D.nx] at n; cases n
  | _, _, .dct _ _ _, n => by rw [D.nx] at n; cases n
  | _, _, .ins _ _ _ _, n => by rw [D.nx] at n; cases n
theorem RepL.dp : ∀ {vs : List V} {ds : List D}, RepL K H vs ds → D.nxs ds = true → DpAll K H vs (D.pys ds)
  | _, _, .nil, _ => by rw [D.pys]; exact .nil
  | _, _, .cons h hs, n => by
    rw [D.nxs, Bool.and_eq_true] at n
    rw [D.pys]; exact .cons (Rep.dp h n.1) (RepL.dp hs n.2)
end
end
def shp (d : D) : Bool := SeqAt.shaped d.py
theorem shp_nx {d : D} (h : shp d = true) : d.nx = true := D.nx_of (by unfold shp SeqAt.shaped at h; rw [Bool.and_eq_true] at h; exact h.1)
def D.eqv (a b : D) : Bool := PyData.eqv a.py b.py

/-! ## 12. Operations -/
@[reducible] def bO (b : Bool) : O := .fr (.bl b)
@[reducible] def iO (i : Int) : O := .fr (.int i)
@[reducible] def sO (s : Str) : O := .fr (.str s)
def mulOk (i j : Int) : Bool := decide (-(2 ^ 64) < i ∧ i < 2 ^ 64) || decide (-(2 ^ 64) < j ∧ j < 2 ^ 64)
def gAdd : List D → Option O
  | [.int i, .int j] => some (iO (i + j))
  | [.str a, .str b] => if a.length + b.length ≤ sizeLine then some (sO (a ++ b)) else none
  | [.lst a, .lst b] => if a.length + b.length ≤ sizeLine then some (.lst (a ++ b)) else none
  | [.tup a, .tup b] => if a.length + b.length ≤ sizeLine then some (.fr (.tup (a ++ b))) else none
  | _ => none
def gSub : List D → Option O
  | [.int i, .int j] => some (iO (i - j))
  | _ => none
def gMul : List D → Option O
  | [.int i, .int j] => if mulOk i j then some (iO (i * j)) else none
  | _ => none
def gDiv : List D → Option O
  | [.int i, .int j] => if j ≠ 0 ∧ j.natAbs < 1073741824 then some (iO (i.fdiv j)) else none
  | _ => none
def gMod : List D → Option O
  | [.int i, .int j] => if j ≠ 0 then some (iO (i.fmod j)) else none
  | _ => none
def gPow : List D → Option O
  | [.int i, .int j] => if 0 ≤ j ∧ j ≤ 1000000 ∧ i.natAbs < 2 ^ 64 then some (iO (i ^ j.toNat)) else none
  | _ => none
def gNeg : List D → Option O
  | [.int i] => some (iO (-i))
  | _ => none
def gEq : List D → Option O
  | [.int i, .int j] => some (bO (decide (i = j)))
  | [.str i, .str j] => some (bO (decide (i = j)))
  | [.bl i, .bl j] => some (bO (decide (i = j)))
  | [a, b] => if shp a && shp b then some (bO (D.eqv a b)) else none
  | _ => none
def gNe : List D → Option O
  | [.int i, .int j] => some (bO (!decide (i = j)))
  | [.str i, .str j] => some (bO (!decide (i = j)))
  | [.bl i, .bl j] => some (bO (!decide (i = j)))
  | [a, b] => if shp a && shp b then some (bO (!D.eqv a b)) else none
  | _ => none
/-- two that can be compared by order -/
def ordOk (a b : D) : Bool := a.nx && b.nx && W.alike a.py b.py && (match a with | .non => false | _ => true) && decide (min a.py.depth b.py.depth ≤ 64)
def gLt : List D → Option O
  | [.int i, .int j] => some (bO (decide (i < j)))
  | [a, b] => if ordOk a b then some (bO (W.dataLt a.py b.py)) else none
  | _ => none
def gGt : List D → Option O
  | [.int i, .int j] => some (bO (decide (j < i)))
  | [a, b] => if ordOk a b then some (bO (W.dataLt b.py a.py)) else none
  | _ => none
def gLe : List D → Option O
  | [.int i, .int j] => some (bO (decide (i ≤ j)))
  | [a, b] => if ordOk a b then some (bO (!W.dataLt b.py a.py)) else none
  | _ => none
def gGe : List D → Option O
  | [.int i, .int j] => some (bO (decide (j ≤ i)))
  | [a, b] => if ordOk a b then some (bO (!W.dataLt a.py b.py)) else none
  | _ => none
def gIsN : List D → Option O
  | [.non, .non] => some (bO true)
  | [.opq, .non] => none
  | [_, .non] => some (bO false)
  | [.bl a, .bl b] => some (bO (decide (a = b)))
  | _ => none
def gNotN : List D → Option O
  | [.non, .non] => some (bO false)
  | [.opq, .non] => none
  | [_, .non] => some (bO true)
  | [.bl a, .bl b] => some (bO (!decide (a = b)))
  | _ => none
def inStr (s z : Str) : Bool := match s.cps.toList with
  | [c] => decide (c ∈ z.cps.toList)
  | _ => !(Builtin.Str.occurrences z s 0 z.length 1).isEmpty
def inL (x : D) (ds : List D) : Bool := ds.any fun y => D.eqv y x
def gIn : List D → Option O
  | [.str s, .str z] => some (bO (inStr s z))
  | [x, .lst ds] => if shp x && shp (.lst ds) then some (bO (inL x ds)) else none
  | [x, .tup ds] => if shp x && shp (.tup ds) then some (bO (inL x ds)) else none
  | _ => none
def gNotIn : List D → Option O
  | [.str s, .str z] => some (bO (!inStr s z))
  | [x, .lst ds] => if shp x && shp (.lst ds) then some (bO (!inL x ds)) else none
  | [x, .tup ds] => if shp x && shp (.tup ds) then some (bO (!inL x ds)) else none
  | _ => none
def gIx : List D → Option O
  | [.lst ds, .int i] => (atI ds i).map .fr
  | [.tup ds, .int i] => (atI ds i).map .fr
  | [.scr ns, .int i] => (atI ns i).map iO
  | [.str z, .int i] => if z.length ≤ sizeLine then (atI z.cps.toList i).map fun c => sO ⟨#[c]⟩ else none
  | _ => none
def gLen : List D → Option O
  | [.lst ds] => some (iO ds.length)
  | [.tup ds] => some (iO ds.length)
  | [.scr ns] => some (iO ns.length)
  | [.str z] => if z.length ≤ sizeLine then some (iO z.length) else none
  | _ => none
def gInt : List D → Option O
  | [.int i] => some (iO i)
  | [.bl b] => some (iO (if b then 1 else 0))
  | _ => none
def gAbs : List D → Option O
  | [.int i] => some (iO (if i < 0 then -i else i))
  | _ => none
def gOrd : List D → Option O
  | [.str z] => if z.length = 1 then some (iO (z.cps.getD 0 0 : Nat)) else none
  | _ => none
def gList : List D → Option O
  | [.lst ds] => some (.lst ds)
  | [.tup ds] => some (.lst ds)
  | [.scr ns] => some (.lst (ns.map .int))
  | _ => none
def gTuple : List D → Option O
  | [.lst ds] => some (.fr (.tup ds))
  | [.tup ds] => some (.fr (.tup ds))
  | _ => none
def boolsD : List D → Option (List Bool)
  | [] => some []
  | .bl b :: ds => (boolsD ds).map (b :: ·)
  | _ => none
def intsD : List D → Option (List Int)
  | [] => some []
  | .int b :: ds => (intsD ds).map (b :: ·)
  | _ => none
def strsD : List D → Option (List Str)
  | [] => some []
  | .str b :: ds => (strsD ds).map (b :: ·)
  | _ => none
def gAll : List D → Option O
  | [.lst ds] => (boolsD ds).map fun bs => bO (bs.all id)
  | _ => none
def gAny : List D → Option O
  | [.lst ds] => (boolsD ds).map fun bs => bO (bs.any id)
  | _ => none
def gSum : List D → Option O
  | [.lst ds] => (intsD ds).map fun bs => iO bs.sum
  | _ => none
end Dn

namespace Dn
open PySem L2
open Evl (Ex)

/-! ## 13. The operations are sound -/
theorem Rd.dp {K : PySem.W.Frag} {B H : Hp} {v : V} {d : D} (h : Rd K B H v d) (hx : Ex B H) (n : d.nx = true) : Dp K H v d.py := (h.rep hx).dp n
theorem snd_or1 {K : PySem.W.Frag} {r r' : R2} {g : List D → Option O} (h : Snd2 K r g) : Snd2 K (fun x y H Q => r x y H Q ∨ r' x y H Q) g := fun B H x y a b o h1 h2 h3 h4 Q q => .inl (h B H x y a b o h1 h2 h3 h4 Q q)

section
variable {X : Cx}
def rAddD (K : PySem.W.Frag) : R2 := fun x y H Q => (rI0 fun i j => .int (i + j)) x y H Q ∨ (fun x y H Q => ∃ i j, x = .str i ∧ y = .str j ∧ i.length + j.length ≤ sizeLine ∧ Q (.str (i ++ j)) H) x y H Q ∨ rCat x y H Q ∨ rCatA K x y H Q
theorem o_add : OpR X (binaryOp .Add) (rAddD X.K) := op_add.or (op_add_str.or (op_cat.or op_catA))
theorem n_add {K : PySem.W.Frag} : Snd2 K (rAddD K) gAdd := fun B H x y a b o hx ha hb hg Q q => by
  cases a <;> cases b <;> simp only [gAdd] at hg <;> (try cases hg)
  · cases ha; cases hb
    exact .inl ⟨_, _, rfl, rfl, q.fr hx (.int _)⟩
  · split at hg
    · cases hg; cases ha; cases hb
      exact .inr (.inl ⟨_, _, rfl, rfl, by assumption, q.fr hx (.str _)⟩)
    · cases hg
  · split at hg
    · rename_i hl
      cases hg
      obtain ⟨p, xs, rfl, h1, h2⟩ := ha
      obtain ⟨p', ys, rfl, h3, h4⟩ := hb
      exact .inr (.inr (.inl ⟨_, _, _, _, rfl, rfl, h1, h3, by rw [h2.length, h4.length]; exact hl, fun l hl => q.newL hx (h2.append h4) hl⟩))
    · cases hg
  · split at hg
    · rename_i hl
      cases hg
      cases ha with
      | tup h1 h2 =>
        cases hb with
        | tup h3 h4 =>
          refine .inr (.inr (.inr ⟨_, _, _, _, rfl, rfl, Evl.ex_t hx h1, Evl.ex_t hx h3, by rw [h2.length, h4.length]; exact hl, fun e => ?_, fun e e2 => ?_, fun e e2 p hp => ?_⟩))
          · subst e; cases h2
            exact q.fr hx (.tup h3 h4)
          · subst e2; cases h4
            rw [List.append_nil] at q
            exact q.fr hx (.tup h1 h2)
          · exact q.newT hx (h2.append h4) hp
    · cases hg
theorem n_sub {K : PySem.W.Frag} : Snd2 K (rI0 fun i j => .int (i - j)) gSub := fun B H x y a b o hx ha hb hg Q q => by
  cases a <;> cases b <;> simp only [gSub] at hg <;> (try cases hg)
  cases ha; cases hb
  exact ⟨_, _, rfl, rfl, q.fr hx (.int _)⟩
theorem n_mul {K : PySem.W.Frag} : Snd2 K (rI CMul fun i j => .int (i * j)) gMul := fun B H x y a b o hx ha hb hg Q q => by
  cases a <;> cases b <;> simp only [gMul] at hg <;> (try cases hg)
  split at hg
  · rename_i hc
    cases hg; cases ha; cases hb
    refine ⟨_, _, rfl, rfl, ?_, q.fr hx (.int _)⟩
    unfold mulOk at hc
    rw [Bool.or_eq_true] at hc
    exact hc.elim (fun z => .inl (of_decide_eq_true z)) fun z => .inr (of_decide_eq_true z)
  · cases hg
theorem n_div {K : PySem.W.Frag} : Snd2 K (rI CDivN fun i j => .int (i.fdiv j)) gDiv := fun B H x y a b o hx ha hb hg Q q => by
  cases a <;> cases b <;> simp only [gDiv] at hg <;> (try cases hg)
  split at hg
  · rename_i hc
    cases hg; cases ha; cases hb
    exact ⟨_, _, rfl, rfl, hc, q.fr hx (.int _)⟩
  · cases hg
theorem n_mod {K : PySem.W.Frag} : Snd2 K (rI (fun _ j => j ≠ 0) fun i j => .int (i.fmod j)) gMod := fun B H x y a b o hx ha hb hg Q q => by
  cases a <;> cases b <;> simp only [gMod] at hg <;> (try cases hg)
  split at hg
  · rename_i hc
    cases hg; cases ha; cases hb
    exact ⟨_, _, rfl, rfl, hc, q.fr hx (.int _)⟩
  · cases hg
theorem n_pow {K : PySem.W.Frag} : Snd2 K (rI CPow fun i j => .int (i ^ j.toNat)) gPow := fun B H x y a b o hx ha hb hg Q q => by
  cases a <;> cases b <;> simp only [gPow] at hg <;> (try cases hg)
  split at hg
  · rename_i hc
    cases hg; cases ha; cases hb
    exact ⟨_, _, rfl, rfl, hc, q.fr hx (.int _)⟩
  · cases hg
theorem n_neg {K : PySem.W.Frag} : Snd1 K (rU fun i => .int (-i)) gNeg := fun B H x a o hx ha hg Q q => by
  cases a <;> simp only [gNeg] at hg <;> (try cases hg)
  cases ha
  exact ⟨_, rfl, q.fr hx (.int _)⟩

/-! ### == and != -/
def rEqO (K : PySem.W.Frag) : R2 := fun x y H Q => rEq x y H Q ∨ rEqD K x y H Q
def rNeO (K : PySem.W.Frag) : R2 := fun x y H Q => rNe x y H Q ∨ rNeD K x y H Q
theorem o_eq (hu : X.A.units + 64 < cLine) : OpR X (compareOp .Eq) (rEqO X.K) := op_eq.or (op_eqD hu)
theorem o_ne (hu : X.A.units + 64 < cLine) : OpR X (compareOp .NotEq) (rNeO X.K) := op_ne.or (op_neD hu)
theorem eq_gen {a b : D} {o : O} (hg : gEq [a, b] = some o) : (∃ i j, a = .int i ∧ b = .int j ∧ o = bO (decide (i = j))) ∨ (∃ i j, a = .str i ∧ b = .str j ∧ o = bO (decide (i = j))) ∨ (∃ i j, a = .bl i ∧ b = .bl j ∧ o = bO (decide (i = j))) ∨ (shp a = true ∧ shp b = true ∧ o = bO (D.eqv a b)) := by
  unfold gEq at hg
  split at hg
  · rename_i h; cases h; cases hg; exact .inl ⟨_, _, rfl, rfl, rfl⟩
  · rename_i h; cases h; cases hg; exact .inr (.inl ⟨_, _, rfl, rfl, rfl⟩)
  · rename_i h; cases h; cases hg; exact .inr (.inr (.inl ⟨_, _, rfl, rfl, rfl⟩))
  · rename_i h
    cases h
    split at hg
    · rename_i hs
      cases hg
      rw [Bool.and_eq_true] at hs
      exact .inr (.inr (.inr ⟨hs.1, hs.2, rfl⟩))
    · cases hg
  · cases hg
theorem ne_gen {a b : D} {o : O} (hg : gNe [a, b] = some o) : (∃ i j, a = .int i ∧ b = .int j ∧ o = bO (!decide (i = j))) ∨ (∃ i j, a = .str i ∧ b = .str j ∧ o = bO (!decide (i = j))) ∨ (∃ i j, a = .bl i ∧ b = .bl j ∧ o = bO (!decide (i = j))) ∨ (shp a = true ∧ shp b = true ∧ o = bO (!D.eqv a b)) := by
  unfold gNe at hg
  split at hg
  · rename_i h; cases h; cases hg; exact .inl ⟨_, _, rfl, rfl, rfl⟩
  · rename_i h; cases h; cases hg; exact .inr (.inl ⟨_, _, rfl, rfl, rfl⟩)
  · rename_i h; cases h; cases hg; exact .inr (.inr (.inl ⟨_, _, rfl, rfl, rfl⟩))
  · rename_i h
    cases h
    split at hg
    · rename_i hs
      cases hg
      rw [Bool.and_eq_true] at hs
      exact .inr (.inr (.inr ⟨hs.1, hs.2, rfl⟩))
    · cases hg
  · cases hg
theorem dec_vi {i j : Int} : decide (V.int i = V.int j) = decide (i = j) := by simp
theorem dec_vs {i j : Str} : decide (V.str i = V.str j) = decide (i = j) := by simp
theorem dec_vb {i j : Bool} : decide (V.bl i = V.bl j) = decide (i = j) := by simp
theorem n_eq {K : PySem.W.Frag} : Snd2 K (rEqO K) gEq := fun B H x y a b o hx ha hb hg Q q => by
  rcases eq_gen hg with ⟨i, j, rfl, rfl, rfl⟩ | ⟨i, j, rfl, rfl, rfl⟩ | ⟨i, j, rfl, rfl, rfl⟩ | ⟨h1, h2, rfl⟩
  · cases ha; cases hb; exact .inl ⟨rfl, by rw [dec_vi]; exact q.fr hx (.bl _)⟩
  · cases ha; cases hb; exact .inl ⟨rfl, by rw [dec_vs]; exact q.fr hx (.bl _)⟩
  · cases ha; cases hb; exact .inl ⟨rfl, by rw [dec_vb]; exact q.fr hx (.bl _)⟩
  · exact .inr ⟨_, _, ha.dp hx (shp_nx h1), hb.dp hx (shp_nx h2), h1, h2, q.fr hx (.bl _)⟩
theorem n_ne {K : PySem.W.Frag} : Snd2 K (rNeO K) gNe := fun B H x y a b o hx ha hb hg Q q => by
  rcases ne_gen hg with ⟨i, j, rfl, rfl, rfl⟩ | ⟨i, j, rfl, rfl, rfl⟩ | ⟨i, j, rfl, rfl, rfl⟩ | ⟨h1, h2, rfl⟩
  · cases ha; cases hb; exact .inl ⟨rfl, by rw [dec_vi]; exact q.fr hx (.bl _)⟩
  · cases ha; cases hb; exact .inl ⟨rfl, by rw [dec_vs]; exact q.fr hx (.bl _)⟩
  · cases ha; cases hb; exact .inl ⟨rfl, by rw [dec_vb]; exact q.fr hx (.bl _)⟩
  · exact .inr ⟨_, _, ha.dp hx (shp_nx h1), hb.dp hx (shp_nx h2), h1, h2, q.fr hx (.bl _)⟩

/-! ### order -/
def rOrd (K : PySem.W.Frag) (f : PyData → PyData → Bool) : R2 := fun x y H Q => ∃ d e, Dp K H x d ∧ Dp K H y e ∧ W.alike d e = true ∧ d ≠ .none ∧ min d.depth e.depth ≤ 64 ∧ Q (.bl (f d e)) H
theorem o_ltD (hu : X.A.units + 64 < cLine) : OpR X (compareOp .Lt) (rOrd X.K W.dataLt) := by
  intro pins s σ H x y v u Q I rx ry h
  obtain ⟨d, e, hd, he, al, dn, dp, q⟩ := h
  obtain ⟨as, r1⟩ := Dp.reads I d x v hd rx
  obtain ⟨bs, r2⟩ := Dp.reads I e y u he ry
  exact W.lt_data r1 r2 al dn (by omega) ⟨.bl _, H, I, rfl, q⟩
theorem o_gtD (hu : X.A.units + 64 < cLine) : OpR X (compareOp .Gt) (rOrd X.K fun d e => W.dataLt e d) := by
  intro pins s σ H x y v u Q I rx ry h
  obtain ⟨d, e, hd, he, al, dn, dp, q⟩ := h
  obtain ⟨as, r1⟩ := Dp.reads I d x v hd rx
  obtain ⟨bs, r2⟩ := Dp.reads I e y u he ry
  exact W.gt_data r1 r2 al dn (by omega) ⟨.bl _, H, I, rfl, q⟩
theorem o_leD (hu : X.A.units + 64 < cLine) : OpR X (compareOp .LtE) (rOrd X.K fun d e => !W.dataLt e d) := by
  intro pins s σ H x y v u Q I rx ry h
  obtain ⟨d, e, hd, he, al, dn, dp, q⟩ := h
  obtain ⟨as, r1⟩ := Dp.reads I d x v hd rx
  obtain ⟨bs, r2⟩ := Dp.reads I e y u he ry
  exact W.le_data r1 r2 al dn (by omega) ⟨.bl _, H, I, rfl, q⟩
theorem o_geD (hu : X.A.units + 64 < cLine) : OpR X (compareOp .GtE) (rOrd X.K fun d e => !W.dataLt d e) := by
  intro pins s σ H x y v u Q I rx ry h
  obtain ⟨d, e, hd, he, al, dn, dp, q⟩ := h
  obtain ⟨as, r1⟩ := Dp.reads I d x v hd rx
  obtain ⟨bs, r2⟩ := Dp.reads I e y u he ry
  exact W.ge_data r1 r2 al dn (by omega) ⟨.bl _, H, I, rfl, q⟩
def rLtO (K : PySem.W.Frag) : R2 := fun x y H Q => (rI0 fun i j => .bl (decide (i < j))) x y H Q ∨ rOrd K W.dataLt x y H Q
def rGtO (K : PySem.W.Frag) : R2 := fun x y H Q => (rI0 fun i j => .bl (decide (j < i))) x y H Q ∨ rOrd K (fun d e => W.dataLt e d) x y H Q
def rLeO (K : PySem.W.Frag) : R2 := fun x y H Q => (rI0 fun i j => .bl (decide (i ≤ j))) x y H Q ∨ rOrd K (fun d e => !W.dataLt e d) x y H Q
def rGeO (K : PySem.W.Frag) : R2 := fun x y H Q => (rI0 fun i j => .bl (decide (j ≤ i))) x y H Q ∨ rOrd K (fun d e => !W.dataLt d e) x y H Q
theorem o_lt (hu : X.A.units + 64 < cLine) : OpR X (compareOp .Lt) (rLtO X.K) := op_lt.or (o_ltD hu)
theorem o_gt (hu : X.A.units + 64 < cLine) : OpR X (compareOp .Gt) (rGtO X.K) := op_gt.or (o_gtD hu)
theorem o_le (hu : X.A.units + 64 < cLine) : OpR X (compareOp .LtE) (rLeO X.K) := op_le.or (o_leD hu)
theorem o_ge (hu : X.A.units + 64 < cLine) : OpR X (compareOp .GtE) (rGeO X.K) := op_ge.or (o_geD hu)
theorem ord_of {a b : D} (h : ordOk a b = true) : W.alike a.py b.py = true ∧ a.py ≠ .none ∧ min a.py.depth b.py.depth ≤ 64 ∧ a.nx = true ∧ b.nx = true := by
  unfold ordOk at h
  rw [Bool.and_eq_true, Bool.and_eq_true, Bool.and_eq_true, Bool.and_eq_true] at h
  obtain ⟨⟨⟨⟨n1, n2⟩, h1⟩, h2⟩, h3⟩ := h
  refine ⟨h1, fun z => ?_, of_decide_eq_true h3, n1, n2⟩
  clear h3 h1 n1 n2
  cases a <;> (try rw [D.py] at z) <;> (first | cases z | skip)
  exact absurd h2 (by decide)
theorem n_lt {K : PySem.W.Frag} : Snd2 K (rLtO K) gLt := fun B H x y a b o hx ha hb hg Q q => by
  unfold gLt at hg
  split at hg
  · rename_i h; cases h; cases hg; cases ha; cases hb
    exact .inl ⟨_, _, rfl, rfl, q.fr hx (.bl _)⟩
  · rename_i h; cases h
    split at hg
    · rename_i hs
      cases hg
      obtain ⟨h1, h2, h3, h4, h5⟩ := ord_of hs
      exact .inr ⟨_, _, ha.dp hx h4, hb.dp hx h5, h1, h2, h3, q.fr hx (.bl _)⟩
    · cases hg
  · cases hg
theorem n_gt {K : PySem.W.Frag} : Snd2 K (rGtO K) gGt := fun B H x y a b o hx ha hb hg Q q => by
  unfold gGt at hg
  split at hg
  · rename_i h; cases h; cases hg; cases ha; cases hb
    exact .inl ⟨_, _, rfl, rfl, q.fr hx (.bl _)⟩
  · rename_i h; cases h
    split at hg
    · rename_i hs
      cases hg
      obtain ⟨h1, h2, h3, h4, h5⟩ := ord_of hs
      exact .inr ⟨_, _, ha.dp hx h4, hb.dp hx h5, h1, h2, h3, q.fr hx (.bl _)⟩
    · cases hg
  · cases hg
theorem n_le {K : PySem.W.Frag} : Snd2 K (rLeO K) gLe := fun B H x y a b o hx ha hb hg Q q => by
  unfold gLe at hg
  split at hg
  · rename_i h; cases h; cases hg; cases ha; cases hb
    exact .inl ⟨_, _, rfl, rfl, q.fr hx (.bl _)⟩
  · rename_i h; cases h
    split at hg
    · rename_i hs
      cases hg
      obtain ⟨h1, h2, h3, h4, h5⟩ := ord_of hs
      exact .inr ⟨_, _, ha.dp hx h4, hb.dp hx h5, h1, h2, h3, q.fr hx (.bl _)⟩
    · cases hg
  · cases hg
theorem n_ge {K : PySem.W.Frag} : Snd2 K (rGeO K) gGe := fun B H x y a b o hx ha hb hg Q q => by
  unfold gGe at hg
  split at hg
  · rename_i h; cases h; cases hg; cases ha; cases hb
    exact .inl ⟨_, _, rfl, rfl, q.fr hx (.bl _)⟩
  · rename_i h; cases h
    split at hg
    · rename_i hs
      cases hg
      obtain ⟨h1, h2, h3, h4, h5⟩ := ord_of hs
      exact .inr ⟨_, _, ha.dp hx h4, hb.dp hx h5, h1, h2, h3, q.fr hx (.bl _)⟩
    · cases hg
  · cases hg

/-! ### is, is not (None, True, False) -/
def rIsO : R2 := fun x y H Q => (fun x y H Q => y = .non ∧ Q (.bl (decide (x = .non))) H) x y H Q ∨ rIsB x y H Q
def rNotO : R2 := fun x y H Q => (fun x y H Q => y = .non ∧ Q (.bl (!decide (x = .non))) H) x y H Q ∨ rNotB x y H Q
theorem o_is : OpR X (compareOp .Is) rIsO := op_isN.or op_isBl
theorem o_isnot : OpR X (compareOp .IsNot) rNotO := op_notN.or op_notBl
theorem rd_non {K : PySem.W.Frag} {B H : Hp} {v : V} {d : D} (h : Rd K B H v d) (hd : d ≠ .opq) : (d = .non ∧ v = .non) ∨ (d ≠ .non ∧ v ≠ .non) := by
  cases d with
  | non => cases h; exact .inl ⟨rfl, rfl⟩
  | lst ds => obtain ⟨a, xs, rfl, _⟩ := h; exact .inr ⟨(by intro z; cases z), (by intro z; cases z)⟩
  | bl b => cases h; exact .inr ⟨(by intro z; cases z), (by intro z; cases z)⟩
  | int b => cases h; exact .inr ⟨(by intro z; cases z), (by intro z; cases z)⟩
  | str b => cases h; exact .inr ⟨(by intro z; cases z), (by intro z; cases z)⟩
  | tup b => cases h; exact .inr ⟨(by intro z; cases z), (by intro z; cases z)⟩
  | scr b => cases h; exact .inr ⟨(by intro z; cases z), (by intro z; cases z)⟩
  | opq => exact absurd rfl hd
  | dct ks ds => obtain ⟨a, kv, rfl, _⟩ := h; exact .inr ⟨(by intro z; cases z), (by intro z; cases z)⟩
  | ins c ns ds => obtain ⟨a, C, dx, fs, rfl, _⟩ := h; exact .inr ⟨(by intro z; cases z), (by intro z; cases z)⟩
theorem n_is {K : PySem.W.Frag} : Snd2 K rIsO gIsN := fun B H x y a b o hx ha hb hg Q q => by
  unfold gIsN at hg
  split at hg
  · rename_i h; cases h; cases hg; cases ha; cases hb
    exact .inl ⟨rfl, q.fr hx (.bl _)⟩
  · cases hg
  · rename_i h1 h2 h; cases h; cases hg; cases hb
    rcases rd_non ha (fun z => by subst z; exact h2 rfl) with ⟨e, _⟩ | ⟨_, e⟩
    · exact absurd e (fun z => by subst z; exact h1 rfl)
    · exact .inl ⟨rfl, by rw [decide_eq_false e]; exact q.fr hx (.bl _)⟩
  · rename_i h; cases h; cases hg; cases ha; cases hb
    exact .inr ⟨_, _, rfl, rfl, q.fr hx (.bl _)⟩
  · cases hg
theorem n_isnot {K : PySem.W.Frag} : Snd2 K rNotO gNotN := fun B H x y a b o hx ha hb hg Q q => by
  unfold gNotN at hg
  split at hg
  · rename_i h; cases h; cases hg; cases ha; cases hb
    exact .inl ⟨rfl, q.fr hx (.bl _)⟩
  · cases hg
  · rename_i h1 h2 h; cases h; cases hg; cases hb
    rcases rd_non ha (fun z => by subst z; exact h2 rfl) with ⟨e, _⟩ | ⟨_, e⟩
    · exact absurd e (fun z => by subst z; exact h1 rfl)
    · exact .inl ⟨rfl, by rw [decide_eq_false e]; exact q.fr hx (.bl _)⟩
  · rename_i h; cases h; cases hg; cases ha; cases hb
    exact .inr ⟨_, _, rfl, rfl, q.fr hx (.bl _)⟩
  · cases hg

/-! ### in, not in -/
def rInT (K : PySem.W.Frag) (neg : Bool) : R2 := fun x y H Q => ∃ d ds, Dp K H x d ∧ Dp K H y (.tuple ds) ∧ SeqAt.shaped d = true ∧ SeqAt.shaped (.tuple ds) = true ∧ Q (.bl (if neg then !(ds.any fun z => PyData.eqv z d) else ds.any fun z => PyData.eqv z d)) H
theorem o_inT (hu : X.A.units + 65 < cLine) : OpR X (compareOp .In) (rInT X.K false) := by
  intro pins s σ H x y v u Q I rx ry h
  obtain ⟨d, ds, hd, he, sd, se, q⟩ := h
  obtain ⟨as, r1⟩ := Dp.reads I d x v hd rx
  obtain ⟨bs, r2⟩ := Dp.reads I (.tuple ds) y u he ry
  exact SeqAt.in_tuple_reads r2 r1 (SeqAt.canLay_of_shaped se) (SeqAt.canLay_of_shaped sd) (PyProof.Rows.room_in_shaped sd hu) ⟨.bl _, H, I, rfl, q⟩
theorem o_notInT (hu : X.A.units + 65 < cLine) : OpR X (compareOp .NotIn) (rInT X.K true) := by
  intro pins s σ H x y v u Q I rx ry h
  obtain ⟨d, ds, hd, he, sd, se, q⟩ := h
  obtain ⟨as, r1⟩ := Dp.reads I d x v hd rx
  obtain ⟨bs, r2⟩ := Dp.reads I (.tuple ds) y u he ry
  exact SeqAt.notIn_tuple_reads r2 r1 (SeqAt.canLay_of_shaped se) (SeqAt.canLay_of_shaped sd) (PyProof.Rows.room_in_shaped sd hu) ⟨.bl _, H, I, rfl, q⟩
def rInO (K : PySem.W.Frag) : R2 := fun x y H Q => (fun x y H Q => ∃ (c : Nat) (z : Str), x = .str ⟨#[c]⟩ ∧ y = .str z ∧ Q (.bl (decide (c ∈ z.cps.toList))) H) x y H Q ∨ (fun x y H Q => ∃ i j, x = .str i ∧ y = .str j ∧ Q (.bl (!(Builtin.Str.occurrences j i 0 j.length 1).isEmpty)) H) x y H Q ∨ rInD K x y H Q ∨ rInT K false x y H Q
def rNotInO (K : PySem.W.Frag) : R2 := fun x y H Q => (fun x y H Q => ∃ (c : Nat) (z : Str), x = .str ⟨#[c]⟩ ∧ y = .str z ∧ Q (.bl (!decide (c ∈ z.cps.toList))) H) x y H Q ∨ (fun x y H Q => ∃ i j, x = .str i ∧ y = .str j ∧ Q (.bl (!(!(Builtin.Str.occurrences j i 0 j.length 1).isEmpty))) H) x y H Q ∨ rNotInD K x y H Q ∨ rInT K true x y H Q
theorem o_in (hu : X.A.units + 65 < cLine) : OpR X (compareOp .In) (rInO X.K) := op_in_sign.or (op_in_str.or ((op_inD hu).or (o_inT hu)))
theorem o_notin (hu : X.A.units + 65 < cLine) : OpR X (compareOp .NotIn) (rNotInO X.K) := op_notIn_sign.or (op_notin_str.or ((op_notInD hu).or (o_notInT hu)))
theorem any_pys (x : D) (ds : List D) : ((D.pys ds).any fun z => PyData.eqv z x.py) = inL x ds := by
  rw [D.pys_map, List.any_map]
  rfl
theorem str_one {s : Str} {c : Nat} (h : s.cps.toList = [c]) : s = ⟨#[c]⟩ := by
  cases s with
  | mk cps =>
    have : cps = #[c] := by
      apply Array.ext'
      simpa using h
    rw [this]
theorem n_in {K : PySem.W.Frag} : Snd2 K (rInO K) gIn := fun B H x y a b o hx ha hb hg Q q => by
  unfold gIn at hg
  split at hg
  · rename_i s z h; cases h; cases hg; cases ha; cases hb
    unfold inStr at q
    split at q
    · rename_i c hc
      rw [str_one hc]
      exact .inl ⟨_, _, rfl, rfl, q.fr hx (.bl _)⟩
    · exact .inr (.inl ⟨_, _, rfl, rfl, q.fr hx (.bl _)⟩)
  · rename_i h; cases h
    split at hg
    · rename_i hs
      cases hg
      rw [Bool.and_eq_true] at hs
      refine .inr (.inr (.inl ⟨_, _, ha.dp hx (shp_nx hs.1), by have := hb.dp hx (shp_nx hs.2); rw [D.py] at this; exact this, hs.1, by have := hs.2; unfold shp at this; rw [D.py] at this; exact this, ?_⟩))
      rw [any_pys]
      exact q.fr hx (.bl _)
    · cases hg
  · rename_i h; cases h
    split at hg
    · rename_i hs
      cases hg
      rw [Bool.and_eq_true] at hs
      refine .inr (.inr (.inr ⟨_, _, ha.dp hx (shp_nx hs.1), by have := hb.dp hx (shp_nx hs.2); rw [D.py] at this; exact this, hs.1, by have := hs.2; unfold shp at this; rw [D.py] at this; exact this, ?_⟩))
      rw [any_pys]
      exact q.fr hx (.bl _)
    · cases hg
  · cases hg
theorem n_notin {K : PySem.W.Frag} : Snd2 K (rNotInO K) gNotIn := fun B H x y a b o hx ha hb hg Q q => by
  unfold gNotIn at hg
  split at hg
  · rename_i s z h; cases h; cases hg; cases ha; cases hb
    unfold inStr at q
    split at q
    · rename_i c hc
      rw [str_one hc]
      exact .inl ⟨_, _, rfl, rfl, q.fr hx (.bl _)⟩
    · exact .inr (.inl ⟨_, _, rfl, rfl, q.fr hx (.bl _)⟩)
  · rename_i h; cases h
    split at hg
    · rename_i hs
      cases hg
      rw [Bool.and_eq_true] at hs
      refine .inr (.inr (.inl ⟨_, _, ha.dp hx (shp_nx hs.1), by have := hb.dp hx (shp_nx hs.2); rw [D.py] at this; exact this, hs.1, by have := hs.2; unfold shp at this; rw [D.py] at this; exact this, ?_⟩))
      rw [any_pys]
      exact q.fr hx (.bl _)
    · cases hg
  · rename_i h; cases h
    split at hg
    · rename_i hs
      cases hg
      rw [Bool.and_eq_true] at hs
      refine .inr (.inr (.inr ⟨_, _, ha.dp hx (shp_nx hs.1), by have := hb.dp hx (shp_nx hs.2); rw [D.py] at this; exact this, hs.1, by have := hs.2; unfold shp at this; rw [D.py] at this; exact this, ?_⟩))
      rw [any_pys]
      exact q.fr hx (.bl _)
    · cases hg
  · cases hg

/-! ### subscripts -/
theorem at_rep {K : PySem.W.Frag} {B : Hp} {xs : List V} {ds : List D} {i : Int} {d : D} (h : RepL K B xs ds) (e : atI ds i = some d) : ∃ v, atI xs i = some v ∧ Rep K B v d := by
  unfold atI at e ⊢
  rw [h.length]
  cases q : ixN ds.length i with
  | none => rw [q] at e; cases e
  | some j =>
    rw [q] at e
    exact h.get e
theorem at_int {ns : List Int} {i : Int} {d : Int} (e : atI ns i = some d) : atI (ns.map V.int) i = some (.int d) := by
  unfold atI at e ⊢
  rw [List.length_map]
  cases q : ixN ns.length i with
  | none => rw [q] at e; cases e
  | some j =>
    rw [q] at e
    have e' : ns[j]? = some d := e
    show (ns.map V.int)[j]? = some (V.int d)
    rw [List.getElem?_map, e']
    rfl
theorem n_ix {K : PySem.W.Frag} : Snd2 K (rIx K) gIx := fun B H x y a b o hx ha hb hg Q q => by
  unfold gIx at hg
  split at hg
  · rename_i h; cases h; cases hb
    obtain ⟨d, e, rfl⟩ := Option.map_eq_some_iff.mp hg
    obtain ⟨p, xs, rfl, h1, h2⟩ := ha
    obtain ⟨v, e1, e2⟩ := at_rep h2 e
    exact .inl ⟨_, _, _, v, rfl, rfl, Evl.sq_of h1, e1, q.fr hx e2⟩
  · rename_i h; cases h; cases hb
    obtain ⟨d, e, rfl⟩ := Option.map_eq_some_iff.mp hg
    cases ha with
    | tup h1 h2 =>
      obtain ⟨v, e1, e2⟩ := at_rep h2 e
      exact .inr (.inl ⟨_, _, _, v, rfl, rfl, Evl.ex_t hx h1, e1, q.fr hx e2⟩)
  · rename_i h; cases h; cases hb
    obtain ⟨d, e, rfl⟩ := Option.map_eq_some_iff.mp hg
    cases ha with
    | scr h1 => exact .inl ⟨_, _, _, _, rfl, rfl, Evl.ex_l hx h1, at_int e, q.fr hx (.int _)⟩
  · rename_i h; cases h; cases hb
    split at hg
    · rename_i hl
      obtain ⟨d, e, rfl⟩ := Option.map_eq_some_iff.mp hg
      cases ha
      exact .inr (.inr ⟨_, _, _, rfl, rfl, hl, e, q.fr hx (.str _)⟩)
    · cases hg
  · cases hg

/-! ### built-ins -/
theorem RdL.one {K : PySem.W.Frag} {B H : Hp} {vs : List V} {d : D} (h : RdL K B H vs [d]) : ∃ v, vs = [v] ∧ Rd K B H v d := by
  cases h with
  | cons h hs => cases hs; exact ⟨_, rfl, h⟩
theorem n_len {K : PySem.W.Frag} : SndN K (fun xs H Q => ∃ x n, xs = [x] ∧ LenV K x H n ∧ Q (.int n) H) gLen := fun B H vs ds o hx hr hg Q q => by
  unfold gLen at hg
  split at hg
  · cases hg
    obtain ⟨v, rfl, h⟩ := hr.one
    obtain ⟨p, xs, rfl, h1, h2⟩ := h
    exact ⟨_, _, rfl, .inl ⟨_, Evl.sq_of h1, h2.length.symm⟩, q.fr hx (.int _)⟩
  · cases hg
    obtain ⟨v, rfl, h⟩ := hr.one
    cases h with
    | tup h1 h2 => exact ⟨_, _, rfl, .inr ⟨_, Evl.ex_t hx h1, h2.length.symm⟩, q.fr hx (.int _)⟩
  · cases hg
    obtain ⟨v, rfl, h⟩ := hr.one
    cases h with
    | scr h1 => exact ⟨_, _, rfl, .inl ⟨_, Evl.ex_l hx h1, (List.length_map ..).symm⟩, q.fr hx (.int _)⟩
  · split at hg
    · rename_i hl
      cases hg
      obtain ⟨v, rfl, h⟩ := hr.one
      cases h
      exact ⟨_, _, rfl, ⟨hl, rfl⟩, q.fr hx (.int _)⟩
    · cases hg
  · cases hg
theorem n_int {K : PySem.W.Frag} : SndN K (fun xs H Q => (∃ i, xs = [.int i] ∧ Q (.int i) H) ∨ ∃ k, xs = [.bl k] ∧ Q (.int (if k then 1 else 0)) H) gInt := fun B H vs ds o hx hr hg Q q => by
  unfold gInt at hg
  split at hg
  · cases hg
    obtain ⟨v, rfl, h⟩ := hr.one
    cases h
    exact .inl ⟨_, rfl, q.fr hx (.int _)⟩
  · cases hg
    obtain ⟨v, rfl, h⟩ := hr.one
    cases h
    exact .inr ⟨_, rfl, q.fr hx (.int _)⟩
  · cases hg
theorem n_abs {K : PySem.W.Frag} : SndN K (fun xs H Q => ∃ i, xs = [.int i] ∧ Q (.int (if i < 0 then -i else i)) H) gAbs := fun B H vs ds o hx hr hg Q q => by
  unfold gAbs at hg
  split at hg
  · cases hg
    obtain ⟨v, rfl, h⟩ := hr.one
    cases h
    exact ⟨_, rfl, q.fr hx (.int _)⟩
  · cases hg
theorem n_ord {K : PySem.W.Frag} : SndN K (fun xs H Q => ∃ x, xs = [.str x] ∧ x.length = 1 ∧ Q (.int (x.cps.getD 0 0 : Nat)) H) gOrd := fun B H vs ds o hx hr hg Q q => by
  unfold gOrd at hg
  split at hg
  · split at hg
    · rename_i hl
      cases hg
      obtain ⟨v, rfl, h⟩ := hr.one
      cases h
      exact ⟨_, rfl, hl, q.fr hx (.int _)⟩
    · cases hg
  · cases hg
theorem n_list {K : PySem.W.Frag} : SndN K (fun xs H Q => ∃ p ys, xs = [.ref p] ∧ (SqL K H p ys ∨ SqT K H p ys) ∧ ∀ l, H l = none → Q (.ref l) (upd H l (.lst ys))) gList := fun B H vs ds o hx hr hg Q q => by
  unfold gList at hg
  split at hg
  · cases hg
    obtain ⟨v, rfl, h⟩ := hr.one
    obtain ⟨p, xs, rfl, h1, h2⟩ := h
    exact ⟨_, _, rfl, .inl (Evl.sq_of h1), fun l hl => q.newL hx h2 hl⟩
  · cases hg
    obtain ⟨v, rfl, h⟩ := hr.one
    cases h with
    | tup h1 h2 => exact ⟨_, _, rfl, .inr (Evl.ex_t hx h1), fun l hl => q.newL hx h2 hl⟩
  · cases hg
    obtain ⟨v, rfl, h⟩ := hr.one
    cases h with
    | scr h1 => exact ⟨_, _, rfl, .inl (Evl.ex_l hx h1), fun l hl => q.newL hx (repL_ints _) hl⟩
  · cases hg
theorem n_tuple {K : PySem.W.Frag} : SndN K (fun xs H Q => ∃ p ys, xs = [.ref p] ∧ ((SqL K H p ys ∧ ∀ l, H l = none → Q (.ref l) (upd H l (.tup ys))) ∨ (SqT K H p ys ∧ Q (.ref p) H))) gTuple := fun B H vs ds o hx hr hg Q q => by
  unfold gTuple at hg
  split at hg
  · cases hg
    obtain ⟨v, rfl, h⟩ := hr.one
    obtain ⟨p, xs, rfl, h1, h2⟩ := h
    exact ⟨_, _, rfl, .inl ⟨Evl.sq_of h1, fun l hl => q.newT hx h2 hl⟩⟩
  · cases hg
    obtain ⟨v, rfl, h⟩ := hr.one
    cases h with
    | tup h1 h2 => exact ⟨_, _, rfl, .inr ⟨Evl.ex_t hx h1, q.fr hx (.tup h1 h2)⟩⟩
  · cases hg
theorem boolsD_map : ∀ {ds : List D} {bs : List Bool}, boolsD ds = some bs → ds = bs.map D.bl
  | [], bs, h => by cases h; rfl
  | d :: ds, bs, h => by
    cases d with
    | bl b =>
      obtain ⟨cs, e, rfl⟩ := Option.map_eq_some_iff.mp (show (boolsD ds).map (b :: ·) = some bs from h)
      rw [boolsD_map e]; rfl
    | _ => cases h
theorem intsD_map : ∀ {ds : List D} {bs : List Int}, intsD ds = some bs → ds = bs.map D.int
  | [], bs, h => by cases h; rfl
  | d :: ds, bs, h => by
    cases d with
    | int b =>
      obtain ⟨cs, e, rfl⟩ := Option.map_eq_some_iff.mp (show (intsD ds).map (b :: ·) = some bs from h)
      rw [intsD_map e]; rfl
    | _ => cases h
theorem strsD_map : ∀ {ds : List D} {bs : List Str}, strsD ds = some bs → ds = bs.map D.str
  | [], bs, h => by cases h; rfl
  | d :: ds, bs, h => by
    cases d with
    | str b =>
      obtain ⟨cs, e, rfl⟩ := Option.map_eq_some_iff.mp (show (strsD ds).map (b :: ·) = some bs from h)
      rw [strsD_map e]; rfl
    | _ => cases h
theorem boolsD_bl : ∀ bs : List Bool, boolsD (bs.map D.bl) = some bs
  | [] => rfl
  | b :: bs => by show (boolsD (bs.map D.bl)).map (b :: ·) = _; rw [boolsD_bl bs]; rfl
theorem intsD_int : ∀ bs : List Int, intsD (bs.map D.int) = some bs
  | [] => rfl
  | b :: bs => by show (intsD (bs.map D.int)).map (b :: ·) = _; rw [intsD_int bs]; rfl
theorem strsD_str : ∀ bs : List Str, strsD (bs.map D.str) = some bs
  | [] => rfl
  | b :: bs => by show (strsD (bs.map D.str)).map (b :: ·) = _; rw [strsD_str bs]; rfl
theorem n_all {K : PySem.W.Frag} : SndN K (rAll K) gAll := fun B H vs ds o hx hr hg Q q => by
  unfold gAll at hg
  split at hg
  · obtain ⟨bs, e, rfl⟩ := Option.map_eq_some_iff.mp hg
    obtain ⟨v, rfl, h⟩ := hr.one
    obtain ⟨p, xs, rfl, h1, h2⟩ := h
    rw [boolsD_map e] at h2
    rw [repL_of_bools h2] at h1
    exact ⟨_, _, rfl, Evl.sq_of h1, q.fr hx (.bl _)⟩
  · cases hg
theorem n_any {K : PySem.W.Frag} : SndN K (rAny K) gAny := fun B H vs ds o hx hr hg Q q => by
  unfold gAny at hg
  split at hg
  · obtain ⟨bs, e, rfl⟩ := Option.map_eq_some_iff.mp hg
    obtain ⟨v, rfl, h⟩ := hr.one
    obtain ⟨p, xs, rfl, h1, h2⟩ := h
    rw [boolsD_map e] at h2
    rw [repL_of_bools h2] at h1
    exact ⟨_, _, rfl, Evl.sq_of h1, q.fr hx (.bl _)⟩
  · cases hg
theorem n_sum {K : PySem.W.Frag} : SndN K (rSum K) gSum := fun B H vs ds o hx hr hg Q q => by
  unfold gSum at hg
  split at hg
  · obtain ⟨bs, e, rfl⟩ := Option.map_eq_some_iff.mp hg
    obtain ⟨v, rfl, h⟩ := hr.one
    obtain ⟨p, xs, rfl, h1, h2⟩ := h
    rw [intsD_map e] at h2
    rw [repL_of_ints h2] at h1
    exact ⟨_, _, rfl, Evl.sq_of h1, q.fr hx (.int _)⟩
  · cases hg
end
end Dn


namespace Dn
open PySem PySem.Spec PyProof.Rows L2
/-- a list, a tuple, a text walked -/
def iAny (K : PySem.W.Frag) (te : TE) : TI := fun σ H R => te σ H fun x H1 => (∃ a, x = .ref a ∧ (∃ xs, SqL K H1 a xs) ∧ R (Itl K a) H1) ∨ (∃ a, x = .ref a ∧ (∃ xs, SqT K H1 a xs) ∧ R (Itt K a) H1) ∨ (∃ z, x = .str z ∧ R (Its z) H1)
theorem pi_any {X : Cx} {tg e : Expr} {te : TE} (he : PE X e te) : PI X tg e (iAny X.K te) := by
  refine ⟨fun pins s σ H R I h => ?_⟩
  refine thn (he.run pins s σ H _ I h) fun v s1 ⟨x, H1, I1, r1, q1⟩ => ?_
  rcases q1 with ⟨a, e, ⟨xs, hq⟩, q⟩ | ⟨a, e, ⟨xs, hq⟩, q⟩ | ⟨x', ex, q⟩
  · subst e
    cases r1
    obtain ⟨its, rv, p, hz⟩ := I1.list hq
    refine wpAny_pyIter_list p.isList ?_
    refine ⟨s1.heap.objs.size, [s1.heap.objs.size], _, _, H1, rfl, I1.kept (t' := s1.toks) fun b o e => Heap.get?_push_of_some _ e, turn_list a _, ⟨_, Heap.get?_push_size _ rfl, rfl, rfl⟩, fun b hb => ?_, q⟩
    have e : b = s1.heap.objs.size := by simpa using hb
    subst e
    exact I1.fpOk (Nat.le_refl _) (I1.hok.fresh (Nat.le_refl _))
  · subst e
    cases r1
    obtain ⟨its, rv, p, hz⟩ := I1.tuple hq
    refine wpAny_pyIter_tuple (show s1.heap.IsTuple a its.toArray from p) ?_
    refine ⟨s1.heap.objs.size, [s1.heap.objs.size], _, _, H1, rfl, I1.kept (t' := s1.toks) fun b o e => Heap.get?_push_of_some _ e, turn_tuple a _, ⟨_, Heap.get?_push_size _ rfl, rfl, rfl⟩, fun b hb => ?_, q⟩
    have e : b = s1.heap.objs.size := by simpa using hb
    subst e
    exact I1.fpOk (Nat.le_refl _) (I1.hok.fresh (Nat.le_refl _))
  · subst ex
    obtain ⟨t, rfl⟩ := r1
    cases ha : x'.cps.all (· < 128)
    · exact wpAny_pyIter_wide ha (pi_one (tk := s1.toks) I1 _ (turn_str _ x' t "str_iterator" (.inr rfl)) ⟨_, Heap.get?_push_size _ rfl, rfl, rfl⟩ q)
    · exact wpAny_pyIter_ascii ha (pi_one (tk := s1.toks) I1 _ (turn_str _ x' t "str_ascii_iterator" (.inl rfl)) ⟨_, Heap.get?_push_size _ rfl, rfl, rfl⟩ q)
end Dn

namespace Dn
open PySem L2
open Evl (Ex)
/-! ## 14. Sources -/
def signs (z : Str) : List D := z.cps.toList.map fun c => .str ⟨#[c]⟩
def seqD : D → Option (List D)
  | .lst ds => some ds
  | .tup ds => some ds
  | .scr ns => some (ns.map .int)
  | .str z => some (signs z)
  | _ => none
def sSeqD (f : M O) : M (List D) := f.bind fun o e => (seqD o.d).map fun ds => .ok ds e
def rngD (lo hi : Int) : List D := (List.range (hi - lo).toNat).map fun i => .int (lo + (i : Nat))
def inR (i : Int) : Bool := decide (-(2 ^ 62) ≤ i ∧ i < 2 ^ 62)
def sRng1 (p : P) : M (List D) := (ops [p]).bind fun ds e => match ds with
  | [.int j] => if inR j then some (.ok (rngD 0 j) e) else none
  | _ => none
def sRng2 (p q : P) : M (List D) := (ops [p, q]).bind fun ds e => match ds with
  | [.int i, .int j] => if inR i && inR j then some (.ok (rngD i j) e) else none
  | _ => none
/-- range(a, b, -1) -/
def sRngD (p q : P) : M (List D) := (ops [p, q, .v (eC (.int (-1)))]).bind fun ds e => match ds with
  | [.int i, .int j, .int _] => if inR i && inR j then some (.ok ((List.range (i - j).toNat).map fun k => .int (i + (k : Nat) * (-1))) e) else none
  | _ => none
def enumD (n : Nat) : List D → List D
  | [] => []
  | d :: ds => .tup [.int (n : Nat), d] :: enumD (n + 1) ds
def sEnum (p : P) : M (List D) := (ops [p]).bind fun ds e => match ds with
  | [.lst xs] => some (.ok (enumD 0 xs) e)
  | _ => none
def zipD : List D → List D → List D
  | x :: xs, y :: ys => .tup [x, y] :: zipD xs ys
  | _, _ => []
def sZip (p q : P) : M (List D) := (ops [p, q]).bind fun ds e => match ds with
  | [.lst xs, .lst ys] => some (.ok (zipD xs ys) e)
  | [.tup xs, .tup ys] => some (.ok (zipD xs ys) e)
  | _ => none
section
variable {K : PySem.W.Frag} {B H : Hp}
theorem walk_at {J : It} {xs : List V} {ds : List D} {G : Hp → Prop} (w : Walk J xs.length G (YAt xs)) (hG : ∀ H, Ex B H → G H) (r : RepL K B xs ds) : WalkD K J B ds := by
  refine ⟨G, YAt xs, by rw [← r.length]; exact w, hG, fun i H x H' B1 hi h1 h2 y => ?_⟩
  obtain ⟨rfl, hx⟩ := y
  obtain ⟨d, hd, rd⟩ := r.get' hx
  exact ⟨B1, d, Gr.refl h2, hd, rd.mono h1⟩
theorem walkD_lst {a : Addr} {xs : List V} {ds : List D} (h : SqL K B a xs) (r : RepL K B xs ds) : WalkD K (Itl K a) B ds := walk_at walk_list (fun H e => Evl.ex_l e h) r
theorem walkD_tup {a : Addr} {xs : List V} {ds : List D} (h : SqT K B a xs) (r : RepL K B xs ds) : WalkD K (Itt K a) B ds := walk_at walk_tup (fun H e => Evl.ex_t e h) r
theorem walkD_str {z : Str} : WalkD K (Its z) B (signs z) := by
  refine ⟨_, _, by unfold signs; rw [List.length_map, Array.length_toList]; exact walk_str, fun _ _ => trivial, fun i H x H' B1 hi h1 h2 y => ?_⟩
  obtain ⟨rfl, c, hc, rfl⟩ := y
  refine ⟨B1, .str ⟨#[c]⟩, Gr.refl h2, ?_, .str _⟩
  unfold signs
  rw [List.getElem?_map, Array.getElem?_toList, hc]
  rfl
theorem walkD_rng {lo hi : Int} : WalkD K (Itr lo (hi - lo).toNat) B (rngD lo hi) := by
  refine ⟨_, _, by unfold rngD; rw [List.length_map, List.length_range]; exact walk_range, fun _ _ => trivial, fun i H x H' B1 hi' h1 h2 y => ?_⟩
  obtain ⟨rfl, rfl⟩ := y
  refine ⟨B1, .int (lo + (i : Nat)), Gr.refl h2, ?_, .int _⟩
  unfold rngD at hi' ⊢
  rw [List.length_map, List.length_range] at hi'
  rw [List.getElem?_map, List.getElem?_range hi']
  rfl
theorem walkD_rngD {lo : Int} {n : Nat} : WalkD K (Itc lo (-1) n) B ((List.range n).map fun k => .int (lo + (k : Nat) * (-1))) := by
  refine ⟨_, _, by rw [List.length_map, List.length_range]; exact walk_rangeC, fun _ _ => trivial, fun i H x H' B1 hi' h1 h2 y => ?_⟩
  obtain ⟨rfl, rfl⟩ := y
  refine ⟨B1, .int (lo + (i : Nat) * (-1)), Gr.refl h2, ?_, .int _⟩
  rw [List.length_map, List.length_range] at hi'
  rw [List.getElem?_map, List.getElem?_range hi']
  rfl
theorem enumD_len : ∀ (ds : List D) (n : Nat), (enumD n ds).length = ds.length
  | [], _ => rfl
  | d :: ds, n => by show (enumD (n + 1) ds).length + 1 = ds.length + 1; rw [enumD_len ds]
theorem enumD_get : ∀ (ds : List D) (n i : Nat) (d : D), ds[i]? = some d → (enumD n ds)[i]? = some (.tup [.int ((n + i : Nat) : Int), d])
  | [], _, _, _, h => by simp at h
  | x :: ds, n, 0, d, h => by
    have h' : some x = some d := h
    cases h'
    rfl
  | x :: ds, n, i + 1, d, h => by
    have := enumD_get ds (n + 1) i d h
    rw [show n + 1 + i = n + (i + 1) by omega] at this
    exact this
theorem walkD_enum {a : Addr} {xs : List V} {ds : List D} (h : SqL K B a xs) (r : RepL K B xs ds) : WalkD K (Ite K a) B (enumD 0 ds) := by
  refine ⟨_, _, by rw [enumD_len, ← r.length]; exact walk_enum (xs := xs), fun H e => Evl.ex_l e h, fun i H x H' B1 hi h1 h2 y => ?_⟩
  obtain ⟨T, u, v, rfl, hT, rfl, hu, hv⟩ := y
  cases hu
  obtain ⟨d, hd, rd⟩ := r.get' hv
  have g := Gr.new h2 hT (.tup [.int (i : Nat), v])
  refine ⟨_, .tup [.int ((0 + i : Nat) : Int), d], g, enumD_get ds 0 i d hd, .tup (Evl.st_of upd_same) ?_⟩
  rw [Nat.zero_add]
  exact .cons (.int _) (.cons ((rd.mono h1).mono g.b) .nil)
theorem zipD_len : ∀ (xs ys : List D), (zipD xs ys).length = min xs.length ys.length
  | [], ys => by simp [zipD]
  | x :: xs, [] => by simp [zipD]
  | x :: xs, y :: ys => by show (zipD xs ys).length + 1 = _; rw [zipD_len xs ys, List.length_cons, List.length_cons]; omega
theorem zipD_get : ∀ (xs ys : List D) (i : Nat) (x y : D), xs[i]? = some x → ys[i]? = some y → (zipD xs ys)[i]? = some (.tup [x, y])
  | [], _, _, _, _, h, _ => by simp at h
  | _ :: _, [], _, _, _, _, h => by simp at h
  | a :: xs, b :: ys, 0, x, y, h1, h2 => by
    have h1' : some a = some x := h1
    have h2' : some b = some y := h2
    cases h1'; cases h2'; rfl
  | a :: xs, b :: ys, i + 1, x, y, h1, h2 => zipD_get xs ys i x y h1 h2
theorem walkD_zip {a b : Addr} {xs ys : List V} {ds es : List D} (h1 : SqL K B a xs) (h2 : SqL K B b ys) (r1 : RepL K B xs ds) (r2 : RepL K B ys es) : WalkD K (Itz K a b) B (zipD ds es) := by
  refine ⟨_, _, walk_zip (xs := xs) (ys := ys) (by rw [zipD_len, r1.length, r2.length]), fun H e => ⟨Evl.ex_l e h1, Evl.ex_l e h2⟩, fun i H x H' B1 hi k1 k2 y => ?_⟩
  obtain ⟨T, u, v, rfl, hT, rfl, hu, hv⟩ := y
  obtain ⟨d, hd, rd⟩ := r1.get' hu
  obtain ⟨d2, hd2, rd2⟩ := r2.get' hv
  have g := Gr.new k2 hT (.tup [u, v])
  exact ⟨_, .tup [d, d2], g, zipD_get ds es i d d2 hd hd2, .tup (Evl.st_of upd_same) (.cons ((rd.mono k1).mono g.b) (.cons ((rd2.mono k1).mono g.b) .nil))⟩
end
section
variable {X : Cx} {W : WX} {e a b c tg : Expr} {pos p : Pos} {f : M O} {p1 p2 : P}
theorem i_seq (h : PE X e (tE X.K X.mg W f)) : PI X tg e (tSrc X.K X.mg W (sSeqD f)) := pi_imp (pi_any h) fun σ H R h => by
  obtain ⟨B, e, S, r, h⟩ := h
  refine ⟨B, e, S, r, h.bind.imp (fun o e' h v B' H' S' T vl fr => ?_) fun _ _ z => z⟩
  obtain ⟨B2, vl2, f2⟩ := vl.freeze
  have f3 : Fr B H (tot S) B2 H' (tot S') := fr.trans ⟨f2.b, fun a o q _ => q, fun a z => .inl (.inr z), fun a u q => (f2.c a u q).elim .inl fun z => .inr (z.elim (fun z => .inl (.inl z)) .inr), fun a o q => ⟨o, q⟩⟩
  have rv := vl2.ro.1
  have hx := vl2.rp.ex
  generalize o.d = d at *
  have h0 : Post ((seqD d).map fun ds => Ro.ok ds e') (fun ds e' => ∀ J B' H' S', Rp X.K B' H' σ e' S' → Fr B H (tot S) B' H' (tot S') → WalkD X.K J B' ds → R J H') (fun x e' => ExE X.K X.mg W B H S σ x e') := h
  cases rv with
  | non => exact h0.elim
  | bl b => exact h0.elim
  | int b => exact h0.elim
  | opq v => exact h0.elim
  | dct _ _ _ => exact h0.elim
  | ins _ _ _ _ => exact h0.elim
  | str z => exact .inr (.inr ⟨z, rfl, (show ∀ J B' H' S', Rp X.K B' H' σ e' S' → Fr B H (tot S) B' H' (tot S') → WalkD X.K J B' (signs z) → R J H' from h0) _ B2 H' S' vl2.rp f3 walkD_str⟩)
  | lst h1 h2 => exact .inl ⟨_, rfl, ⟨_, Evl.sq_of (hx _ _ h1)⟩, (show ∀ J B' H' S', Rp X.K B' H' σ e' S' → Fr B H (tot S) B' H' (tot S') → WalkD X.K J B' _ → R J H' from h0) _ B2 H' S' vl2.rp f3 (walkD_lst (Evl.sq_of h1) h2)⟩
  | tup h1 h2 => exact .inr (.inl ⟨_, rfl, ⟨_, Evl.ex_t hx h1⟩, (show ∀ J B' H' S', Rp X.K B' H' σ e' S' → Fr B H (tot S) B' H' (tot S') → WalkD X.K J B' _ → R J H' from h0) _ B2 H' S' vl2.rp f3 (walkD_tup h1 h2)⟩)
  | scr h1 => exact .inl ⟨_, rfl, ⟨_, Evl.ex_l hx h1⟩, (show ∀ J B' H' S', Rp X.K B' H' σ e' S' → Fr B H (tot S) B' H' (tot S') → WalkD X.K J B' _ → R J H' from h0) _ B2 H' S' vl2.rp f3 (walkD_lst h1 (repL_ints _))⟩
theorem inR_of {i : Int} (h : inR i = true) : -(2 ^ 62) ≤ i ∧ i < 2 ^ 62 := of_decide_eq_true h
theorem i_rng1 (hg : Gl X "range") (hm : X.mg "range" = none) (ha : PA X [a] (tPs X.K X.mg W [p1])) (hs : starEach [a] X.env = [(false, eval a X.env)] := by rfl) : PI X tg (.Call (.Name "range" p) [a] [] pos) (tSrc X.K X.mg W (sRng1 p1)) := pi_imp (pi_range1 hg hm ha hs) fun σ H R h => by
  obtain ⟨B, e, S, r, h⟩ := h
  refine ops_run [p1] _ r (h.bind.imp (fun ds e' h vs B' H' S' r' rl f => ?_) fun _ _ z => z)
  split at h
  · rename_i j
    split at h
    · rename_i hj
      obtain ⟨v, rfl, rv⟩ := rl.one
      cases rv
      obtain ⟨h1, h2⟩ := inR_of hj
      refine ⟨j, rfl, h1, h2, (show ∀ J B' H' S', Rp X.K B' H' σ e' S' → Fr B H (tot S) B' H' (tot S') → WalkD X.K J B' _ → R J H' from h) _ B' H' S' r' f ?_⟩
      have := walkD_rng (K := X.K) (B := B') (lo := 0) (hi := j)
      rwa [show j - 0 = j by omega] at this
    · exact h.elim
  · exact h.elim
theorem i_rng2 (hg : Gl X "range") (hm : X.mg "range" = none) (ha : PA X [a, b] (tPs X.K X.mg W [p1, p2])) (hs : starEach [a, b] X.env = [(false, eval a X.env), (false, eval b X.env)] := by rfl) (hs2 : starEach [b] X.env = [(false, eval b X.env)] := by rfl) : PI X tg (.Call (.Name "range" p) [a, b] [] pos) (tSrc X.K X.mg W (sRng2 p1 p2)) := pi_imp (pi_range2 hg hm ha hs hs2) fun σ H R h => by
  obtain ⟨B, e, S, r, h⟩ := h
  refine ops_run [p1, p2] _ r (h.bind.imp (fun ds e' h vs B' H' S' r' rl f => ?_) fun _ _ z => z)
  split at h
  · rename_i i j
    split at h
    · rename_i hj
      rw [Bool.and_eq_true] at hj
      cases rl with
      | cons a1 rl =>
        cases rl with
        | cons a2 rl =>
          cases rl
          cases a1; cases a2
          exact ⟨i, j, rfl, ⟨(inR_of hj.1).1, (inR_of hj.1).2, (inR_of hj.2).1, (inR_of hj.2).2⟩, (show ∀ J B' H' S', Rp X.K B' H' σ e' S' → Fr B H (tot S) B' H' (tot S') → WalkD X.K J B' _ → R J H' from h) _ B' H' S' r' f walkD_rng⟩
    · exact h.elim
  · exact h.elim
theorem i_enum {elts : List Expr} {kk : Nat} {tpos : Pos} (hg : Gl X "enumerate") (hm : X.mg "enumerate" = none) (ha : PE X e (tE X.K X.mg W f)) (hs : starEach [e] X.env = [(false, eval e X.env)] := by rfl) : PI X (.Tuple elts kk tpos) (.Call (.Name "enumerate" p) [e] [] pos) (tSrc X.K X.mg W (sEnum (.v f))) := pi_imp (pi_enum hg hm (is_c (f := f) ha is_n hs) hs) fun σ H R h => by
  obtain ⟨B, e, S, r, h⟩ := h
  refine items_run [f] _ r ?_
  have h0 := h.bind
  unfold ops at h0
  unfold items
  have h1 := h0.bind
  show Post (M.bind f _ e) _ _
  cases q : f e with
  | none => rw [q] at h1; exact h1.elim
  | some ro =>
    rw [q] at h1
    unfold M.bind
    rw [q]
    cases ro with
    | ex x e' => exact h1
    | ok o e' =>
      intro vs B' H' S' r' rl fr
      have h2 : Post (match [o.d] with
        | [.lst xs] => some (Ro.ok (enumD 0 xs) e')
        | _ => none) (fun ds e' => ∀ J B' H' S', Rp X.K B' H' σ e' S' → Fr B H (tot S) B' H' (tot S') → WalkD X.K J B' ds → R J H') (fun x e' => ExE X.K X.mg W B H S σ x e') := h1
      cases rl with
      | cons rv rl =>
        cases rl
        generalize o.d = d at *
        cases rv with
        | lst k1 k2 => exact ⟨_, _, rfl, Evl.sq_of (r'.ex _ _ k1), (show ∀ J B' H' S', Rp X.K B' H' σ e' S' → Fr B H (tot S) B' H' (tot S') → WalkD X.K J B' _ → R J H' from h2) _ B' H' S' r' fr (walkD_enum (Evl.sq_of k1) k2)⟩
        | _ => exact h2.elim
end
end Dn

namespace Dn
open PySem L2
open Evl (Ex)

/-! ## 15. Comprehensions -/
def wipeE (e : Sl) : List Nat → Sl
  | [] => e
  | v :: vs => (wipeE e vs).set v none
def restE (e0 e : Sl) : List Nat → Sl
  | [] => e
  | v :: vs => match e0[v]? with
    | some (some (.fr d)) => (restE e0 e vs).set v (some (.fr d))
    | _ => restE e0 e vs
def lcL (own : List Nat) (tg : Tg) (t : M Bool) (f : M O) : List D → List D → Sl → Option (List D × Sl)
  | [], acc, e => some (acc, e)
  | d :: ds, acc, e => match tg.go d e with
    | none => none
    | some e1 => match t e1 with
      | some (.ok b e2) => if b then (match f e2 with
          | some (.ok o e3) => if acc.length < sizeLine then lcL own tg t f ds (acc ++ [o.d]) (wipeE e3 own) else none
          | _ => none) else lcL own tg t f ds acc (wipeE e2 own)
      | _ => none
def eComp (own : List Nat) (src : M (List D)) (tg : Tg) (t : M Bool) (f : M O) : M O := src.bind fun ds e => match lcL own tg t f ds [] (wipeE e own) with
  | some (acc, e') => some (.ok (.lst acc) (restE e e' own))
  | none => none
def cYes : M Bool := M.pure true

theorem wipe_at {σ : St} {own : List Nat} {j : Nat} : (wipe σ own)[j]? = if j ∈ own then (σ[j]?).map (fun _ => none) else σ[j]? := by
  induction own with
  | nil => simp [wipe]
  | cons v vs ih =>
    unfold wipe
    by_cases hj : v = j
    · subst hj
      rw [List.getElem?_set_self', ih, if_pos List.mem_cons_self]
      by_cases hv : v ∈ vs
      · rw [if_pos hv]
        cases σ[v]? <;> simp
      · rw [if_neg hv]
        cases σ[v]? <;> simp
    · rw [List.getElem?_set_ne hj, ih]
      by_cases hv : j ∈ vs
      · rw [if_pos hv, if_pos (List.mem_cons_of_mem _ hv)]
      · rw [if_neg hv, if_neg (by rw [List.mem_cons, not_or]; exact ⟨fun z => hj z.symm, hv⟩)]
theorem wipeE_len (e : Sl) : ∀ own : List Nat, (wipeE e own).length = e.length
  | [] => rfl
  | v :: vs => by unfold wipeE; rw [List.length_set, wipeE_len e vs]
theorem wipeE_at {e : Sl} {own : List Nat} {j : Nat} {o : O} (h : (wipeE e own)[j]? = some (some o)) : j ∉ own ∧ e[j]? = some (some o) := by
  induction own with
  | nil => exact ⟨by simp, h⟩
  | cons v vs ih =>
    unfold wipeE at h
    by_cases hj : v = j
    · subst hj
      rw [List.getElem?_set_self'] at h
      cases q : (wipeE e vs)[v]? with
      | none => rw [q] at h; cases h
      | some u => rw [q] at h; cases h
    · rw [List.getElem?_set_ne hj] at h
      obtain ⟨h1, h2⟩ := ih h
      exact ⟨by rw [List.mem_cons, not_or]; exact ⟨fun z => hj z.symm, h1⟩, h2⟩
theorem restE_len (e0 e : Sl) : ∀ own : List Nat, (restE e0 e own).length = e.length
  | [] => rfl
  | v :: vs => by
    unfold restE
    split
    · rw [List.length_set, restE_len e0 e vs]
    · exact restE_len e0 e vs
theorem restE_at {e0 e : Sl} {own : List Nat} {j : Nat} {o : O} (h : (restE e0 e own)[j]? = some (some o)) : (j ∈ own ∧ e0[j]? = some (some o) ∧ ∃ d, o = .fr d) ∨ e[j]? = some (some o) := by
  induction own with
  | nil => exact .inr h
  | cons v vs ih =>
    unfold restE at h
    split at h
    · rename_i d hd
      by_cases hj : v = j
      · subst hj
        rw [List.getElem?_set_self'] at h
        cases q : (restE e0 e vs)[v]? with
        | none => rw [q] at h; cases h
        | some u =>
          rw [q] at h
          cases h
          exact .inl ⟨List.mem_cons_self, hd, d, rfl⟩
      · rw [List.getElem?_set_ne hj] at h
        rcases ih h with ⟨a, b⟩ | a
        · exact .inl ⟨List.mem_cons_of_mem _ a, b⟩
        · exact .inr a
    · rcases ih h with ⟨a, b⟩ | a
      · exact .inl ⟨List.mem_cons_of_mem _ a, b⟩
      · exact .inr a
theorem wipe_eq {σ σ' : St} {own : List Nat} (l : σ.length = σ'.length) (h : ∀ j : Nat, j ∉ own → σ[j]? = σ'[j]?) : wipe σ own = wipe σ' own := by
  apply List.ext_getElem?
  intro j
  rw [wipe_at, wipe_at]
  by_cases hj : j ∈ own
  · rw [if_pos hj, if_pos hj]
    by_cases hl : j < σ.length
    · rw [List.getElem?_eq_getElem hl, List.getElem?_eq_getElem (l ▸ hl)]; rfl
    · rw [List.getElem?_eq_none (by omega), List.getElem?_eq_none (by omega)]
  · rw [if_neg hj, if_neg hj]; exact h j hj
theorem wipe_wipe (σ : St) (own : List Nat) : wipe (wipe σ own) own = wipe σ own := by
  refine wipe_eq (wipe_length σ own) fun j hj => ?_
  rw [wipe_at, if_neg hj]

section
variable {K : PySem.W.Frag} {mg : Str → Option Value} {W : WX} {B B' H H' : Hp} {v : V} {o : O} {σ σ' : St} {e e' : Sl} {S S' : Nat → Addr → Prop} {T T' : Addr → Prop}
theorem Rp.wipe (r : Rp K B H σ e S) (own : List Nat) : Rp K B H (L2.wipe σ own) (wipeE e own) S :=
  ⟨by rw [wipe_length, wipeE_len]; exact r.len, r.ex, fun i o ho => by
    obtain ⟨h1, h2⟩ := wipeE_at ho
    obtain ⟨v, h3, h4⟩ := r.rep i o h2
    exact ⟨v, by rw [wipe_at, if_neg h1]; exact h3, h4⟩, r.dis, r.own⟩
theorem Rp.upd (r : Rp K B H σ e S) {p : Addr} {u : HO} (hb : B p = none) (hs : ∀ i, ¬ S i p) : Rp K B (upd H p u) σ e S := by
  refine ⟨r.len, fun a o ha => ?_, fun i o ho => ?_, r.dis, fun i a ha => ⟨(r.own i a ha).1, ?_⟩⟩
  · by_cases hp : a = p
    · subst hp; rw [hb] at ha; cases ha
    · rw [upd_ne hp]; exact r.ex a o ha
  · obtain ⟨v, h1, h2⟩ := r.rep i o ho
    refine ⟨v, h1, ?_⟩
    cases o with
    | fr d => exact h2
    | lst ds =>
      obtain ⟨q, xs, e1, h3, h4, h5⟩ := h2
      refine ⟨q, xs, e1, ?_, h4, h5⟩
      rw [upd_ne]
      · exact h3
      · intro z
        exact hs i ((h5 p).mpr z.symm)
    | dct kvs =>
      obtain ⟨q, kv, e1, h3, hk, h4, h5⟩ := h2
      refine ⟨q, kv, e1, ?_, hk, h4, h5⟩
      rw [upd_ne]
      · exact h3
      · intro z
        exact hs i ((h5 p).mpr z.symm)
    | ins c ns xs =>
      obtain ⟨q, C, dx, fs, e1, h3, hc, hk, h4, h5⟩ := h2
      refine ⟨q, C, dx, fs, e1, ?_, hc, hk, h4, h5⟩
      rw [upd_ne]
      · exact h3
      · intro z
        exact hs i ((h5 p).mpr z.symm)
    | exn a d x => exact h2
  · by_cases hp : a = p
    · exact ⟨u, by rw [hp]; exact upd_same⟩
    · obtain ⟨_, o, h⟩ := r.own i a ha
      exact ⟨o, by rw [upd_ne hp]; exact h⟩
theorem Fr.both (f : Fr B H T B' H' T') (U : Addr → Prop) : Fr B H (fun a => U a ∨ T a) B' H' (fun a => U a ∨ T' a) :=
  ⟨f.b, fun a o h n => f.k a o h fun z => n (.inr z), fun a z => z.elim (fun z => .inl (.inl z)) fun z => (f.n a z).elim (fun z => .inl (.inr z)) .inr, fun a o h => (f.c a o h).elim .inl fun z => .inr (z.elim (fun z => .inl (.inr z)) .inr), f.a⟩
theorem Fr.upd {p : Addr} {u u' : HO} (h : H p = some u) (hT : T p) : Fr B H T B (upd H p u') T :=
  ⟨Ex.refl B, fun a o ha hn => by rw [upd_ne (fun z => hn (by rw [z]; exact hT))]; exact ha, fun _ z => .inl z, fun _ _ z => .inl z, fun a o ha => by
    by_cases hp : a = p
    · exact ⟨u', by rw [hp]; exact upd_same⟩
    · exact ⟨o, by rw [upd_ne hp]; exact ha⟩⟩
theorem setAll_slen : ∀ (is : List Nat) (ds : List D) {e e2 : Sl}, setAll is ds e = some e2 → e2.length = e.length
  | [], [], e, e2, h => by cases h; rfl
  | [], _ :: _, _, _, h => by cases h
  | _ :: _, [], _, _, h => by cases h
  | i :: is, d :: ds, e, e2, h => by
    rw [setAll_slen is ds (e := e.set i (some (.fr d))) h, List.length_set]
theorem go_len {tg : Tg} {d : D} {e e2 : Sl} (h : tg.go d e = some e2) : e2.length = e.length := by
  cases tg with
  | n i => cases h; rw [List.length_set]
  | t is =>
    cases d with
    | tup ds => exact setAll_slen is ds h
    | _ => cases h
/-- a new list of one's own beside the slots, changed in place -/
theorem comp_run {own : List Nat} {tg : Tg} {t : M Bool} {f : M O} {src : M (List D)} {Q : VK} (hk : ∀ i ∈ tg.ix, i ∈ own) (h : tE K mg W (eComp own src tg t f) σ H Q) :
    tLc (tSrc K mg W src) (tTg K tg) (tT K mg (fun _ _ _ _ => False) t) (tE K mg (fun _ _ _ _ => False) f) own σ H Q := by
  obtain ⟨B, e, S, r, h⟩ := h
  refine ⟨B, e, S, r, h.bind.imp (fun ds e1 h J B1 H1 S1 r1 f1 wd D hD => ?_) fun _ _ z => z⟩
  obtain ⟨G, Y, wk, hG, hY⟩ := wd
  cases q : lcL own tg t f ds [] (wipeE e1 own) with
  | none => rw [q] at h; exact h.elim
  | some res =>
    obtain ⟨accF, eF⟩ := res
    rw [q] at h
    have h0 : ∀ v B' H' S' T, Vl K B' H' σ (restE e1 eF own) S' v (.lst accF) T → Fr B H (tot S) B' H' (fun a => T a ∨ tot S' a) → Q v H' := h
    have hbD : B1 D = none := by
      cases qd : B1 D with
      | none => rfl
      | some u => have := r1.ex D u qd; rw [hD] at this; cases this
    have hsD : ∀ i, ¬ S1 i D := fun i z => by
      obtain ⟨_, o, ho⟩ := r1.own i D z
      rw [hD] at ho; cases ho
    have own1 : Own B1 (upd H1 D (.lst [])) (fun a => a = D) := fun a ha => by subst ha; exact ⟨hbD, _, upd_same⟩
    refine lc_it wk (fun i H' => ∃ B' e' S' acc, Vl K B' H' (wipe σ own) e' S' (.ref D) (.lst acc) (fun a => a = D) ∧ Fr B H (tot S) B' H' (fun a => a = D ∨ tot S' a) ∧ Ex B1 B' ∧ lcL own tg t f (ds.drop i) acc e' = some (accF, eF))
      ⟨B1, wipeE e1 own, S1, [], ⟨(r1.upd hbD hsD).wipe own, ⟨D, [], rfl, upd_same, .nil, fun a => Iff.rfl⟩, own1, fun a ha ⟨i, z⟩ => hsD i (ha ▸ z)⟩, ?_, Ex.refl _, by rw [List.drop_zero]; exact q⟩
      (fun i H' hi ⟨B', e', S', acc, vl, f', x', h'⟩ => hG _ (x'.trans vl.rp.ex)) (fun i x H' H2 hi ⟨B', e', S', acc, vl, f', x', h'⟩ hy => ?_) fun H' ⟨B', e', S', acc, vl, f', x', h'⟩ => ?_
    · refine f1.trans ⟨Ex.refl _, fun a o ha _ => ?_, fun a z => z.elim (fun z => .inr (by rw [z]; exact hD)) .inl, fun _ _ z => .inl z, fun a o ha => ⟨o, ?_⟩⟩
      · rw [upd_ne (ne_of_none ha hD)]; exact ha
      · rw [upd_ne (ne_of_none ha hD)]; exact ha
    · obtain ⟨B2, d, gr, hd, rv⟩ := hY i H' x H2 B' hi x' vl.rp.ex hy
      have ed : ds.drop i = d :: ds.drop (i + 1) := by
        rw [List.drop_eq_getElem_cons hi]
        rw [List.getElem?_eq_getElem hi] at hd
        cases hd
        rfl
      rw [ed] at h'
      unfold lcL at h'
      have r2 := vl.rp.grow gr
      have ro2 := vl.ro.grow gr
      have ow2 := vl.own.grow gr
      cases qt : tg.go d e' with
      | none => rw [qt] at h'; cases h'
      | some e2 =>
        rw [qt] at h'
        dsimp only at h'
        refine tg_run (ks := []) r2 rv qt (fun _ _ z => nomatch z) fun σ3 S3 r3 _ t3 n3 => ?_
        have wσ : wipe σ3 own = wipe σ own := by
          rw [← wipe_wipe σ own]
          exact wipe_eq (r3.len.trans ((go_len qt).trans r2.len.symm)) fun j hj => n3 j fun z => hj (hk j z)
        refine ⟨wσ, B2, e2, S3, r3, ?_⟩
        have dj3 : ∀ a, a = D → ¬ tot S3 a := fun a ha z => vl.dj a ha (t3 a z)
        have f3 : Fr B H (tot S) B2 H2 (fun a => a = D ∨ tot S3 a) := (f'.trans (gr.fr _)).imp (fun _ z => z) fun a z => z.elim .inl fun z => .inr (t3 a z)
        cases qc : t e2 with
        | none => rw [qc] at h'; cases h'
        | some rc =>
          rw [qc] at h'
          cases rc with
          | ex _ _ => cases h'
          | ok b e4 =>
            intro B4 H4 S4 r4 f4
            obtain ⟨ro4, ow4, dj4⟩ := ro2.frame ow2 dj3 f4
            have f34 := f3.trans (f4.both fun a => a = D)
            cases b with
            | false =>
              exact iteF ⟨B4, _, S4, acc, ⟨by rw [← wσ]; exact r4.wipe own, ro4, ow4, dj4⟩, f34, (x'.trans gr.b).trans f4.b, h'⟩
            | true =>
              refine iteT ⟨B4, e4, S4, r4, ?_⟩
              cases qf : f e4 with
              | none => simp only [qf, if_true] at h'; cases h'
              | some rf =>
                simp only [qf, if_true] at h'
                cases rf with
                | ex _ _ => cases h'
                | ok o e5 =>
                  intro y B5 H5 S5 T5 vl5 f5
                  obtain ⟨B6, vl6, f6⟩ := vl5.freeze
                  have f56 : Fr B4 H4 (tot S4) B6 H5 (tot S5) := f5.trans ⟨f6.b, fun a o q _ => q, fun a z => .inl (.inr z), fun a u q => (f6.c a u q).elim .inl fun z => .inr (z.elim (fun z => .inl (.inl z)) .inr), fun a o q => ⟨o, q⟩⟩
                  obtain ⟨ro6, ow6, dj6⟩ := ro4.frame ow4 dj4 f56
                  obtain ⟨p, xs, ep, hp, rl, hs⟩ := ro6
                  cases ep
                  dsimp only at h'
                  split at h'
                  · rename_i hlen
                    refine ⟨xs, hp, by rw [rl.length]; exact hlen, B6, _, S5, _, ⟨?_, ⟨D, _, rfl, upd_same, rl.append (.one vl6.ro.1), fun a => Iff.rfl⟩, fun a ha => ⟨(ow6 a ha).1, by subst ha; exact ⟨_, upd_same⟩⟩, dj6⟩, ?_, (x'.trans gr.b).trans (f4.b.trans f56.b), h'⟩
                    · rw [← wσ]
                      exact (vl6.rp.wipe own).upd (ow6 D rfl).1 fun i z => dj6 D rfl ⟨i, z⟩
                    · exact (f34.trans (f56.both fun a => a = D)).trans (Fr.upd hp (.inl rfl))
                  · cases h'
    · rw [List.drop_length] at h'
      have h2 : some (acc, e') = some (accF, eF) := h'
      cases h2
      refine h0 (.ref D) B' H' (fun j => if j ∈ own then noS else S' j) (fun a => a = D) ⟨⟨by rw [restE_len, ← vl.rp.len, wipe_length], vl.rp.ex, fun j o ho => ?_, fun i j a h1 h2 => ?_, fun j a h1 => ?_⟩, vl.ro, vl.own, fun a ha ⟨j, z⟩ => ?_⟩ (f'.imp (fun _ z => z) fun a z => z.elim .inl fun ⟨j, z⟩ => ?_)
      · have hin : ∀ o, eF[j]? = some (some o) → j ∉ own := fun o ho hj => by
          obtain ⟨v, hv, _⟩ := vl.rp.rep j o ho
          rw [wipe_at, if_pos hj] at hv
          cases qq : σ[j]? with
          | none => rw [qq] at hv; cases hv
          | some u => rw [qq] at hv; cases hv
        rcases restE_at ho with ⟨a, b, d, rfl⟩ | a
        · obtain ⟨v, hv, ro⟩ := r1.rep j _ b
          exact ⟨v, hv, by rw [if_pos a]; exact ⟨ro.1.mono x', fun _ z => z⟩⟩
        · obtain ⟨v, hv, ro⟩ := vl.rp.rep j o a
          have hj := hin o a
          rw [wipe_at, if_neg hj] at hv
          exact ⟨v, hv, by rw [if_neg hj]; exact ro⟩
      · skip
        by_cases hi : i ∈ own
        · rw [if_pos hi] at h1; exact h1.elim
        · by_cases hj : j ∈ own
          · rw [if_pos hj] at h2; exact h2.elim
          · rw [if_neg hi] at h1; rw [if_neg hj] at h2; exact vl.rp.dis i j a h1 h2
      · skip
        by_cases hj : j ∈ own
        · rw [if_pos hj] at h1; exact h1.elim
        · rw [if_neg hj] at h1; exact vl.rp.own j a h1
      · dsimp only at z
        by_cases hj : j ∈ own
        · rw [if_pos hj] at z; exact z.elim
        · rw [if_neg hj] at z; exact vl.dj a ha ⟨j, z⟩
      · dsimp only at z
        by_cases hj : j ∈ own
        · rw [if_pos hj] at z; exact z.elim
        · rw [if_neg hj] at z; exact .inr ⟨j, z⟩
end
section
variable {X : Cx} {W : WX}
abbrev WF : WX := fun _ _ _ _ => False
theorem d_comp {elt tgt iter : Expr} {ifs : List Expr} {scope : Scope} {own : List (Str × Nat)} {pos : Pos} {src : M (List D)} {tg : Tg} {t : M Bool} {f : M O} (hc : X.calm = true) (hN : X.N.Nodup) (hi : PI X tgt iter (tSrc X.K X.mg W src)) (ok : BlkOk X.N X.env.scope scope own)
    (hg : ∀ (s : Shared) (H : Hp) (C : Addr) (cl : List (Str × Addr)) (fp : List Addr), PG (X.blk s H scope (compEnvC scope cl C X.env) fp) tgt (tTg X.K tg)) (ht : ∀ (s : Shared) (H : Hp) (C : Addr) (cl : List (Str × Addr)) (fp : List Addr), PTs (X.blk s H scope (compEnvC scope cl C X.env) fp) ifs (tT X.K X.mg WF t))
    (he : ∀ (s : Shared) (H : Hp) (C : Addr) (cl : List (Str × Addr)) (fp : List Addr), PE (X.blk s H scope (compEnvC scope cl C X.env) fp) elt (tE X.K X.mg WF f)) (hk : ∀ i ∈ tg.ix, i ∈ own.map (·.2)) (hs : ∀ x, foldedSetIterable iter X.env x = pure x := by intro _; rfl) :
    PE X (.ListComp elt [⟨tgt, iter, ifs, 0⟩] scope pos) (tE X.K X.mg W (eComp (own.map (·.2)) src tg t f)) := pe_imp (pe_lc hc hN hi ok hg ht he hs) fun _ _ _ h => comp_run hk h
theorem s_setLc {ks : List Nat} {i : Nat} {y : Str} {py : Pos} {elt tgt iter : Expr} {ifs : List Expr} {scope : Scope} {own : List (Str × Nat)} {pos spos : Pos} {src : M (List D)} {tg : Tg} {t : M Bool} {f : M O} (hc : X.calm = true) (hN : X.N.Nodup) (hy : X.N[i]? = some y) (hyl : X.env.scope.names.lookup y = some .local)
    (hsw : swapsWith (.ListComp elt [⟨tgt, iter, ifs, 0⟩] scope pos) (some (.Name y py)) spos.line X.env = pure true) (hi : PI X tgt iter (tSrc X.K X.mg W src)) (ok : BlkOk X.N X.env.scope scope own)
    (hg : ∀ (s : Shared) (H : Hp) (C : Addr) (cl : List (Str × Addr)) (fp : List Addr), PG (X.blk s H scope (compEnvC scope cl C X.env) fp) tgt (tTg X.K tg)) (ht : ∀ (s : Shared) (H : Hp) (C : Addr) (cl : List (Str × Addr)) (fp : List Addr), PTs (X.blk s H scope (compEnvC scope cl C X.env) fp) ifs (tT X.K X.mg WF t))
    (he : ∀ (s : Shared) (H : Hp) (C : Addr) (cl : List (Str × Addr)) (fp : List Addr), PE (X.blk s H scope (compEnvC scope cl C X.env) fp) elt (tE X.K X.mg WF f)) (hk : ∀ i ∈ tg.ix, i ∈ own.map (·.2)) (hki : i ∉ ks := by decide) (hs : ∀ x, foldedSetIterable iter X.env x = pure x := by intro _; rfl) :
    PS X (.Assign [.Name y py] (.ListComp elt [⟨tgt, iter, ifs, 0⟩] scope pos) spos) (tS X.K X.mg W ks (sSet i (eComp (own.map (·.2)) src tg t f))) := ps_imp (ps_setLc hc hN hy hyl hsw hi ok hg ht he hs) fun D σ H h => by
  obtain ⟨B, e, S, r, h⟩ := h
  refine comp_run (mg := X.mg) (W := W) hk ⟨B, e, S, r, h.bind.imp (fun o e' h v B' H' S' T vl f => ?_) fun _ _ z => ExS.toE z⟩
  exact h _ B' H' _ (vl.set i) (Kp.set hki) f.sets
theorem pts_y : PTs X [] (tT X.K X.mg W cYes) := ⟨fun pins s σ H Q I h => by
  obtain ⟨B, e, S, r, h⟩ := h
  exact pts_nil.run pins s σ H Q I (h B H S r (Fr.refl _ _ _))⟩
theorem pts_1 {c : Expr} {t : M Bool} (h : PT X c (tT X.K X.mg W t)) : PTs X [c] (tT X.K X.mg W t) := pts_one h
end
end Dn

namespace Dn
open PySem L2
open Evl (Ex)

/-! ## 16. Methods of texts and of lists that are read -/
def apM (chk : D → Bool) (g : List D → Option O) (p : P) (ps : List P) : M O := match p with
  | .b i => fun e => match e[i]? with
    | some (some o) => if chk o.d then ap g (.b i :: ps) e else none
    | _ => none
  | .v f => f.bind fun o => if chk o.d then ((ops ps).bind fun ds e => (g (o.d :: ds)).map fun r => .ok r e) else M.stuck
def isStr : D → Bool
  | .str _ => true
  | _ => false
def isLst : D → Bool
  | .lst _ => true
  | _ => false
section
variable {K : PySem.W.Frag} {mg : Str → Option Value} {W : WX} {B B' H H' : Hp} {σ : St}
theorem apM_run {C : V → Hp → Prop} {chk : D → Bool} {g : List D → Option O} {p : P} {ps : List P} {r : V → List V → Hp → VK → Prop} {Q : VK} (hC : ∀ B H v d, Ex B H → Rd K B H v d → chk d = true → C v H)
    (hs : ∀ (B H : Hp) (x : V) (vs : List V) (a : D) (ds : List D) (o : O), Ex B H → Rd K B H x a → RdL K B H vs ds → g (a :: ds) = some o → ∀ Q : VK, Giv K B H o Q → r x vs H Q)
    (h : tE K mg W (apM chk g p ps) σ H Q) : tP K mg W p σ H fun x H1 => C x H1 ∧ tPs K mg W ps σ H1 fun vs H2 => r x vs H2 Q := by
  obtain ⟨B, e, S, rp, h⟩ := h
  cases p with
  | b i =>
    unfold apM at h
    dsimp only at h
    cases q : e[i]? with
    | none => rw [q] at h; exact h.elim
    | some u =>
      cases u with
      | none => rw [q] at h; exact h.elim
      | some o =>
        rw [q] at h
        dsimp only at h
        obtain ⟨v, hv, ro⟩ := rp.rep i o q
        by_cases hc : chk o.d = true
        · rw [if_pos hc] at h
          refine ⟨v, hv, hC B H v _ rp.ex (ro.rd rp.ex) hc, ?_⟩
          have h1 := Post.bind (show Post (M.bind (ops (.b i :: ps)) (fun ds e => (g ds).map fun o => .ok o e) e) _ _ from h)
          unfold ops at h1
          rw [q] at h1
          dsimp only at h1
          refine ops_run ps _ rp (h1.bind.imp (fun ds e' h vs B' H' S' r' rl f => ?_) fun _ _ z => z)
          cases q' : e'[i]? with
          | none => rw [q'] at h; exact h.elim
          | some u' =>
            cases u' with
            | none => rw [q'] at h; exact h.elim
            | some o' =>
              rw [q'] at h
              obtain ⟨v', hv', ro'⟩ := r'.rep i o' q'
              rw [hv] at hv'; cases hv'
              obtain ⟨res, hr, h2⟩ := ap_end h
              exact hs B' H' v vs _ _ res r'.ex (ro'.rd r'.ex) rl hr Q (r'.giv fun v B2 H2 S2 T vl f2 => h2 v B2 H2 S2 T vl (f.trans f2))
        · rw [if_neg hc] at h; exact h.elim
  | v f =>
    refine ⟨B, e, S, rp, (show Post (M.bind f _ e) _ _ from h).bind.imp (fun o e1 h v B1 H1 S1 T vl f1 => ?_) fun _ _ z => z⟩
    by_cases hc : chk o.d = true
    · rw [if_pos hc] at h
      refine ⟨hC B1 H1 v _ vl.rp.ex (vl.ro.rd vl.rp.ex) hc, ?_⟩
      have f1' : Fr B H (tot S) B1 H1 (tot S1) := f1.imp (fun _ z => z) fun _ z => .inr z
      refine ops_run ps _ vl.rp (h.bind.imp (fun ds e' h vs B' H' S' r' rl f2 => ?_) fun x e' z => z.step f1')
      obtain ⟨res, hr, h2⟩ := ap_end h
      obtain ⟨ro, _, _⟩ := vl.ro.frame vl.own vl.dj f2
      exact hs B' H' v vs _ _ res r'.ex (ro.rd r'.ex) rl hr Q (r'.giv fun v B2 H2 S2 T vl f3 => h2 v B2 H2 S2 T vl ((f1'.trans f2).trans f3))
    · rw [if_neg hc] at h; exact h.elim
theorem chk_str {v : V} {d : D} (h : Rd K B H v d) (hc : isStr d = true) : ∃ a, v = .str a := by
  cases d with
  | str s => cases h; exact ⟨_, rfl⟩
  | _ => cases hc
theorem chk_lst {v : V} {d : D} (h : Rd K B H v d) (hc : isLst d = true) : tyV K "list" v H := by
  cases d with
  | lst s => obtain ⟨a, xs, rfl, h1, h2⟩ := h; exact .inl ⟨rfl, _, Evl.sq_of h1⟩
  | _ => cases hc
def SndM (K : PySem.W.Frag) (r : V → List V → Hp → VK → Prop) (g : List D → Option O) : Prop := ∀ (B H : Hp) (x : V) (vs : List V) (a : D) (ds : List D) (o : O), Ex B H → Rd K B H x a → RdL K B H vs ds → g (a :: ds) = some o → ∀ Q : VK, Giv K B H o Q → r x vs H Q
end
section
variable {X : Cx} {W : WX} {o e : Expr} {es : List Expr} {p q : P} {ps : List P} {G : List D → Option O} {id : String} {name : Str} {apos pos : Pos} {r : V → List V → Hp → VK → Prop}
theorem d_m1 (slot : Slot "str" name id) (ty : typeOf (.builtin id) = pure (.type "method_descriptor")) (rule : MtR X id r) (hs : SndM X.K r G) (ho : PE X o (tP X.K X.mg W p)) (he : PE X e (tP X.K X.mg W q))
    (hst : starEach [e] X.env = [(false, eval e X.env)] := by rfl) (hbase : attributeBase o name X.env (eval o X.env) = eval o X.env := by rfl) (hline : (apos.endLine == pos.line) = true := by rfl) :
    PE X (.Call (.Attribute o name apos) [e] [] pos) (tE X.K X.mg W (apM isStr G p [q])) := pe_imp (pe_m1 slot ty rule ho he hst hbase hline) fun σ H Q h => apM_run (fun B H v d _ h c => chk_str h c) hs h
theorem d_m0 (slot : Slot "str" name id) (ty : typeOf (.builtin id) = pure (.type "method_descriptor")) (rule : MtR X id r) (hs : SndM X.K r G) (ho : PE X o (tP X.K X.mg W p))
    (hbase : attributeBase o name X.env (eval o X.env) = eval o X.env := by rfl) (hline : (apos.endLine == pos.line) = true := by rfl) :
    PE X (.Call (.Attribute o name apos) [] [] pos) (tE X.K X.mg W (apM isStr G p [])) := pe_imp (pe_m0 slot ty rule ho hbase hline) fun σ H Q h => apM_run (fun B H v d _ h c => chk_str h c) hs h
end
def gJoin : List D → Option O
  | [.str a, .lst ds] => (strsD ds).bind fun ys => if (ys.map (·.length)).sum + ys.length * a.length ≤ 16777216 then some (sO (Txt.join a ys)) else none
  | _ => none
def gCount : List D → Option O
  | [.str a, .str b] => some (iO (Txt.count a b))
  | _ => none
def gStarts : List D → Option O
  | [.str a, .str b] => some (bO (Txt.startswith a b))
  | _ => none
def gRstrip : List D → Option O
  | [.str a, .str b] => if a.length ≤ sizeLine then some (sO (Txt.rstripChars a b)) else none
  | _ => none
def gSIndex : List D → Option O
  | [.str a, .str b] => match Builtin.Str.occurrences a b 0 a.length 1 with
    | i :: _ => some (iO (i : Nat))
    | [] => none
  | _ => none
def gSplit : List D → Option O
  | [.str a, .str b] => if (b.length == 0) = false ∧ a.length + 2 ≤ sizeLine then some (.lst ((Txt.split a b).map .str)) else none
  | _ => none
theorem RdL.nil' {K : PySem.W.Frag} {B H : Hp} {vs : List V} (h : RdL K B H vs []) : vs = [] := by cases h; rfl
theorem n_join {K : PySem.W.Frag} : SndM K (fun x xs H Q => ∃ a p, ∃ ys : List Str, x = .str a ∧ xs = [.ref p] ∧ (SqL K H p (ys.map V.str) ∨ SqT K H p (ys.map V.str)) ∧ (ys.map (·.length)).sum + ys.length * a.length ≤ 16777216 ∧ Q (.str (Txt.join a ys)) H) gJoin := fun B H x vs a ds o hx hr hl hg Q q => by
  unfold gJoin at hg
  split at hg
  · rename_i h; cases h
    obtain ⟨ys, e1, hg⟩ := Option.bind_eq_some_iff.mp hg
    split at hg
    · rename_i hz
      cases hg; cases hr
      obtain ⟨v, rfl, rv⟩ := hl.one
      obtain ⟨p, xs, rfl, h1, h2⟩ := rv
      rw [strsD_map e1] at h2
      rw [repL_of_strs h2] at h1
      exact ⟨_, _, ys, rfl, rfl, .inl (Evl.sq_of h1), hz, q.fr hx (.str _)⟩
    · cases hg
  · cases hg
theorem n_count {K : PySem.W.Frag} : SndM K (fun x xs H Q => ∃ a b, x = .str a ∧ xs = [.str b] ∧ Q (.int (Txt.count a b)) H) gCount := fun B H x vs a ds o hx hr hl hg Q q => by
  unfold gCount at hg
  split at hg
  · rename_i h; cases h; cases hg; cases hr
    obtain ⟨v, rfl, rv⟩ := hl.one
    cases rv
    exact ⟨_, _, rfl, rfl, q.fr hx (.int _)⟩
  · cases hg
theorem n_starts {K : PySem.W.Frag} : SndM K (fun x xs H Q => ∃ a b, x = .str a ∧ xs = [.str b] ∧ Q (.bl (Txt.startswith a b)) H) gStarts := fun B H x vs a ds o hx hr hl hg Q q => by
  unfold gStarts at hg
  split at hg
  · rename_i h; cases h; cases hg; cases hr
    obtain ⟨v, rfl, rv⟩ := hl.one
    cases rv
    exact ⟨_, _, rfl, rfl, q.fr hx (.bl _)⟩
  · cases hg
theorem n_rstrip {K : PySem.W.Frag} : SndM K (fun x xs H Q => ∃ a b, x = .str a ∧ xs = [.str b] ∧ a.length ≤ sizeLine ∧ Q (.str (Txt.rstripChars a b)) H) gRstrip := fun B H x vs a ds o hx hr hl hg Q q => by
  unfold gRstrip at hg
  split at hg
  · rename_i h; cases h
    split at hg
    · rename_i hz
      cases hg; cases hr
      obtain ⟨v, rfl, rv⟩ := hl.one
      cases rv
      exact ⟨_, _, rfl, rfl, hz, q.fr hx (.str _)⟩
    · cases hg
  · cases hg
theorem n_sindex {K : PySem.W.Frag} : SndM K (fun x xs H Q => ∃ a b i rest, x = .str a ∧ xs = [.str b] ∧ Builtin.Str.occurrences a b 0 a.length 1 = i :: rest ∧ Q (.int (i : Nat)) H) gSIndex := fun B H x vs a ds o hx hr hl hg Q q => by
  unfold gSIndex at hg
  split at hg
  · rename_i h; cases h
    split at hg
    · rename_i i rest hz
      cases hg; cases hr
      obtain ⟨v, rfl, rv⟩ := hl.one
      cases rv
      exact ⟨_, _, i, rest, rfl, rfl, hz, q.fr hx (.int _)⟩
    · cases hg
  · cases hg
theorem n_split {K : PySem.W.Frag} : SndM K (fun x xs H Q => ∃ a b, x = .str a ∧ xs = [.str b] ∧ (b.length == 0) = false ∧ a.length + 2 ≤ sizeLine ∧ rNewStrs (Txt.split a b) H Q) gSplit := fun B H x vs a ds o hx hr hl hg Q q => by
  unfold gSplit at hg
  split at hg
  · rename_i h; cases h
    split at hg
    · rename_i hz
      cases hg; cases hr
      obtain ⟨v, rfl, rv⟩ := hl.one
      cases rv
      exact ⟨_, _, rfl, rfl, hz.1, hz.2, fun p hp => q.newL hx (repL_strs _) hp⟩
    · cases hg
  · cases hg

/-! ## 17. isinstance with a built-in class -/
def isi (T : String) : D → Option Bool
  | .non => kitB "NoneType" T
  | .bl _ => kitB "bool" T
  | .int _ => kitB "int" T
  | .str _ => kitB "str" T
  | .lst _ => kitB "list" T
  | .scr _ => kitB "list" T
  | .tup _ => kitB "tuple" T
  | _ => none
def gIsi (T : String) : List D → Option O
  | [d] => (isi T d).map bO
  | _ => none
theorem tyx_lst {K : PySem.W.Frag} {H : Hp} {a : Addr} {xs : List V} (h : SqL K H a xs) : TyX K H (.ref a) (.type "list") := by
  rcases h with (h | ⟨o, h⟩) | ⟨o, its, n, h, c, _⟩
  · exact .base (.lst h)
  · exact .base (.frz h)
  · exact .kList h c
theorem tyx_tup {K : PySem.W.Frag} {H : Hp} {a : Addr} {xs : List V} (h : SqT K H a xs) : TyX K H (.ref a) (.type "tuple") := by
  rcases h with (h | ⟨o, h⟩) | ⟨o, its, n, h, c, _⟩
  · exact .base (.tup h)
  · exact .fTuple h
  · exact .kTuple h c
theorem n_isi {K : PySem.W.Frag} {T : String} : SndN K (fun vs H Q => rIsi K (vs ++ [.ty T]) H Q) (gIsi T) := fun B H vs ds o hx hr hg Q q => by
  unfold gIsi at hg
  split at hg
  · obtain ⟨b, hb, rfl⟩ := Option.map_eq_some_iff.mp hg
    obtain ⟨v, rfl, rv⟩ := hr.one
    rename_i d
    have go : ∀ t, TyX K H v (.type t) → kitB t T = some b → rIsi K ([v] ++ [.ty T]) H Q := fun t ty e => ⟨v, _, _, _, b, rfl, .ty T, ty, kit_ty e, q.fr hx (.bl _)⟩
    cases d with
    | non => cases rv; exact go _ (.base .non) hb
    | bl _ => cases rv; exact go _ (.base (.bl _)) hb
    | int _ => cases rv; exact go _ (.base (.int _)) hb
    | str _ => cases rv; exact go _ (.base (.str _)) hb
    | lst _ => obtain ⟨a, xs, rfl, h1, h2⟩ := rv; exact go _ (tyx_lst (Evl.sq_of h1)) hb
    | tup _ => cases rv with
      | tup h1 h2 => exact go _ (tyx_tup (Evl.ex_t hx h1)) hb
    | scr _ => cases rv with
      | scr h1 => exact go _ (tyx_lst (Evl.ex_l hx h1)) hb
    | opq => cases hb
    | dct _ _ => cases hb
    | ins _ _ _ => cases hb
  · cases hg
section
variable {X : Cx} {W : WX} {e : Expr} {p : P} {p1 p2 pos : Pos} {T : String}
theorem d_isi {x : Str} (hg : Gl X "isinstance") (hm : X.mg "isinstance" = none) (hgT : Gl X x) (hmT : X.mg x = none) (hvT : bootBuiltins x = some (.type T)) (hv : bootBuiltins "isinstance" = some (.builtin "isinstance")) (ha : PE X e (tP X.K X.mg W p)) (hn : x ≠ "__name__" := by decide) (hdb : (x == ("__debug__" : Str)) = false := by decide)
    (hs1 : starEach (e :: [.Name x p2]) X.env = (false, eval e X.env) :: starEach [.Name x p2] X.env := by rfl) (hs2 : starEach (.Name x p2 :: []) X.env = (false, eval (.Name x p2) X.env) :: starEach [] X.env := by rfl)
    (hpl : (backTo pos (starEach [.Name x p2] X.env)).any (·.1) = false := by rfl) : PE X (.Call (.Name "isinstance" p1) [e, .Name x p2] [] pos) (tE X.K X.mg W (ap (gIsi T) [p])) :=
  pe_imp (pe_callB call_isi hg hm hv (pa_cons ha (pa_cons (pe_bltn hgT hmT hvT (v := .ty T) rfl hn hdb) pa_nil hs2) hs1) (by decide) (by decide) hs1 hpl) fun _ _ _ h => apN_run (n_isi) _ h
end

/-! ## 18. Slices -/
def cutD {α : Type} (xs : List α) (lo hi : Option Int) : List α := (xs.drop (HT.sIx xs.length 0 lo)).take (HT.sIx xs.length xs.length hi - HT.sIx xs.length 0 lo)
def eI (f : M O) : M O := f.bind fun o => match o with
  | .fr (.int i) => M.pure (.fr (.int i))
  | _ => M.stuck
def gRevS : List D → Option O
  | [.lst ds] => some (.lst ds.reverse)
  | _ => none
def slD (d : D) (lo hi : Option Int) : Option O := match d with
  | .lst ds => some (.lst (cutD ds lo hi))
  | .tup ds => some (.fr (.tup (cutD ds lo hi)))
  | .scr ns => some (.lst ((cutD ns lo hi).map .int))
  | .str z => if z.length ≤ sizeLine then some (sO (cutS z lo hi)) else none
  | _ => none
def parts (lo hi : Bool) : List D → Option (D × Option Int × Option Int)
  | d :: ds => match lo, hi, ds with
    | false, false, [] => some (d, none, none)
    | true, false, [.int i] => some (d, some i, none)
    | false, true, [.int j] => some (d, none, some j)
    | true, true, [.int i, .int j] => some (d, some i, some j)
    | _, _, _ => none
  | _ => none
def gSl (lo hi : Bool) (ds : List D) : Option O := (parts lo hi ds).bind fun x => slD x.1 x.2.1 x.2.2
def rSlO (K : PySem.W.Frag) : V → Option Int → Option Int → Hp → VK → Prop := fun x lo hi H Q => rSlL K x lo hi H Q ∨ rSlA K x lo hi H Q ∨ rSlS x lo hi H Q
theorem sl_any {X : Cx} : SlR X (rSlO X.K) := sl_list.or (sl_tupA.or sl_str)
theorem cut_rep {K : PySem.W.Frag} {B : Hp} {xs : List V} {ds : List D} {lo hi : Option Int} (h : RepL K B xs ds) : RepL K B (cutV xs lo hi) (cutD ds lo hi) := by
  unfold cutV cutD
  rw [h.length]
  exact (h.drop _).take _
theorem cut_ints (ns : List Int) (lo hi : Option Int) : cutV (ns.map V.int) lo hi = (cutD ns lo hi).map V.int := by
  unfold cutV cutD
  rw [List.length_map, List.map_take, List.map_drop]
theorem slD_run {K : PySem.W.Frag} {B H : Hp} {x : V} {d : D} {lo hi : Option Int} {o : O} {Q : VK} (hx : Ex B H) (h : Rd K B H x d) (e : slD d lo hi = some o) (q : Giv K B H o Q) : rSlO K x lo hi H Q := by
  unfold slD at e
  split at e
  · cases e
    obtain ⟨a, xs, rfl, h1, h2⟩ := h
    exact .inl ⟨_, _, rfl, Evl.sq_of h1, fun p hp => q.newL hx (cut_rep h2) hp⟩
  · cases e
    cases h with
    | tup h1 h2 =>
      rename_i xs
      refine .inr (.inl ⟨_, _, rfl, Evl.ex_t hx h1, fun hw => ?_, fun _ p hp => q.newT hx (cut_rep h2) hp⟩)
      refine q.fr hx (.tup h1 ?_)
      have e2 := cut_rep (lo := lo) (hi := hi) h2
      have e3 : cutV xs lo hi = xs := by
        unfold cutV
        rw [hw.1, hw.2, List.drop_zero, Nat.sub_zero, List.take_length]
      rw [e3] at e2
      exact e2
  · cases e
    cases h with
    | scr h1 => exact .inl ⟨_, _, rfl, Evl.ex_l hx h1, fun p hp => by rw [cut_ints]; exact q.newL hx (repL_ints _) hp⟩
  · split at e
    · rename_i hl
      cases e; cases h
      exact .inr (.inr ⟨_, rfl, hl, q.fr hx (.str _)⟩)
    · cases e
  · cases e
section
variable {X : Cx} {W : WX} {e a b : Expr} {p q u : P} {p2 pos : Pos}
theorem d_sl00 (h : PE X e (tP X.K X.mg W p)) : PE X (.Subscript e (.Slice none none none p2) pos) (tE X.K X.mg W (ap (gSl false false) [p])) := pe_imp (pe_slice sl_any h po_none po_none) fun σ H Q h =>
  ap1_run (r := fun x H Q => rSlO X.K x none none H Q) (fun B H x a o hx hr hg Q q => slD_run hx hr hg q) Q h
theorem d_sl10 (h : PE X e (tP X.K X.mg W p)) (ha : PE X a (tP X.K X.mg W q)) : PE X (.Subscript e (.Slice (some a) none none p2) pos) (tE X.K X.mg W (ap (gSl true false) [p, q])) := pe_imp (pe_slice sl_any h (po_some ha) po_none) fun σ H Q h =>
  ap2_run (r := fun x y H Q => ∃ i, y = .int i ∧ rSlO X.K x (some i) none H Q) (fun B H x y a b o hx hr hr2 hg Q q => by
    cases b with
    | int i => cases hr2; exact ⟨i, rfl, slD_run hx hr hg q⟩
    | _ => cases hg) Q h
theorem d_sl01 (h : PE X e (tP X.K X.mg W p)) (ha : PE X a (tP X.K X.mg W q)) : PE X (.Subscript e (.Slice none (some a) none p2) pos) (tE X.K X.mg W (ap (gSl false true) [p, q])) := pe_imp (pe_slice sl_any h po_none (po_some ha)) fun σ H Q h =>
  ap2_run (r := fun x y H Q => ∃ i, y = .int i ∧ rSlO X.K x none (some i) H Q) (fun B H x y a b o hx hr hr2 hg Q q => by
    cases b with
    | int i => cases hr2; exact ⟨i, rfl, slD_run hx hr hg q⟩
    | _ => cases hg) Q h
theorem eI_fact {K : PySem.W.Frag} {mg : Str → Option Value} {W : WX} {σ : St} {H : Hp} {f : M O} {Q : VK} (h : tE K mg W (eI f) σ H Q) : tE K mg W (eI f) σ H fun y H' => (∃ i, y = .int i) ∧ Q y H' := by
  obtain ⟨B, e, S, r, h⟩ := h
  unfold eI at h ⊢
  refine ⟨B, e, S, r, ?_⟩
  have h1 := h.bind
  show Post (M.bind f _ e) _ _
  unfold M.bind
  cases q : f e with
  | none => rw [q] at h1; exact h1
  | some ro =>
    rw [q] at h1
    cases ro with
    | ex x e' => exact h1
    | ok o e' =>
      cases o with
      | lst _ => exact h1.elim
      | dct _ _ => exact h1.elim
      | ins _ _ _ => exact h1.elim
      | exn _ _ _ => exact h1.elim
      | fr d =>
        cases d with
        | int i => exact fun v B' H' S' T vl f => ⟨by have := vl.ro.1; cases this; exact ⟨i, rfl⟩, (show ∀ v B' H' S' T, Vl K B' H' σ e' S' v (.fr (.int i)) T → Fr B H (tot S) B' H' (fun a => T a ∨ tot S' a) → Q v H' from h1) v B' H' S' T vl f⟩
        | _ => exact h1.elim
theorem tP_mono {K : PySem.W.Frag} {mg : Str → Option Value} {W : WX} (p : P) (σ : St) (H : Hp) (Q Q' : VK) (hq : ∀ v H, Q v H → Q' v H) (t : tP K mg W p σ H Q) : tP K mg W p σ H Q' := by
  cases p with
  | b i => obtain ⟨v, e, q⟩ := t; exact ⟨v, e, hq _ _ q⟩
  | v f => obtain ⟨B, e, S, r, t⟩ := t; exact ⟨B, e, S, r, t.imp (fun o e' h v B' H' S' T vl f => hq _ _ (h v B' H' S' T vl f)) fun _ _ z => z⟩
theorem d_I {f : M O} (h : PE X e (tE X.K X.mg W f)) : PE X e (tE X.K X.mg W (eI f)) := pe_imp h fun σ H Q h => by
  obtain ⟨B, e, S, r, h⟩ := h
  refine ⟨B, e, S, r, h.bind.imp (fun o e' h => ?_) fun _ _ z => z⟩
  cases o with
  | lst _ => exact h.elim
  | dct _ _ => exact h.elim
  | ins _ _ _ => exact h.elim
  | exn _ _ _ => exact h.elim
  | fr d => cases d with
    | int i => exact h
    | _ => exact h.elim
theorem d_sl11 {f g : M O} (h : PE X e (tP X.K X.mg W p)) (ha : PE X a (tE X.K X.mg W f)) (hb : PE X b (tE X.K X.mg W g)) : PE X (.Subscript e (.Slice (some a) (some b) none p2) pos) (tE X.K X.mg W (ap (gSl true true) [p, .v (eI f), .v (eI g)])) := pe_imp (pe_slice sl_any h (po_some (d_I ha)) (po_some (d_I hb))) fun σ H Q h => by
  have key : tP X.K X.mg W p σ H fun x H1 => tE X.K X.mg W (eI f) σ H1 fun y H2 => tE X.K X.mg W (eI g) σ H2 fun z H3 => ∀ x' y' z', [x, y, z] = [x', y', z'] → ∀ i j, y' = .int i → z' = .int j → rSlO X.K x' (some i) (some j) H3 Q :=
    apN_run (r := fun vs H Q => ∀ x y z, vs = [x, y, z] → ∀ i j, y = .int i → z = .int j → rSlO X.K x (some i) (some j) H Q) (fun B H vs ds o hx hr hg Q q x y z ev i j ei ej => by
    subst ev
    subst ei
    subst ej
    cases hr with
    | cons h1 hr => cases hr with
      | cons h2 hr => cases hr with
        | cons h3 hr =>
          cases hr
          rename_i d1 d2 d3
          have e2 : d2 = .int i := by cases d2 <;> first | (cases h2; done) | (rcases h2 with ⟨_, _, _, _, z, _⟩; exact V.noConfusion z) | (obtain ⟨_, _, z, _⟩ := h2; cases z; done) | (cases h2; rfl) | (have z : (none : Option O) = some o := hg; cases z)
          subst e2
          have e3 : d3 = .int j := by cases d3 <;> first | (cases h3; done) | (rcases h3 with ⟨_, _, _, _, z, _⟩; exact V.noConfusion z) | (obtain ⟨_, _, z, _⟩ := h3; cases z; done) | (cases h3; rfl) | (have z : (none : Option O) = some o := hg; cases z)
          subst e3
          exact slD_run hx h1 hg q) Q h
  refine tP_mono _ _ _ _ _ (fun x H1 t => ?_) key
  refine tP_mono (.v (eI f)) _ _ _ _ (fun y H2 t => ?_) (eI_fact t)
  obtain ⟨⟨i, rfl⟩, t⟩ := t
  refine ⟨i, rfl, tP_mono (.v (eI g)) _ _ _ _ (fun z H3 t => ?_) (eI_fact t)⟩
  obtain ⟨⟨j, rfl⟩, t⟩ := t
  exact ⟨j, rfl, t _ _ _ rfl i j rfl rfl⟩
theorem d_rev {k : Nat} {p1 p3 : Pos} (h : PE X e (tP X.K X.mg W p)) : PE X (.Subscript e (.Slice none none (some (.UnaryOp .USub (.Constant (.int 1) k p1) p2)) p3) pos) (tE X.K X.mg W (ap gRevS [p])) := pe_imp (pe_revL h) fun σ H Q h =>
  ap1_run (r := fun x H Q => ∃ a xs, x = .ref a ∧ SqL X.K H a xs ∧ ∀ p, H p = none → Q (.ref p) (upd H p (.lst xs.reverse))) (fun B H x a o hx hr hg Q q => by
    cases a with
    | lst ds =>
      cases hg
      obtain ⟨a, xs, rfl, h1, h2⟩ := hr
      exact ⟨_, _, rfl, Evl.sq_of h1, fun p hp => q.newL hx h2.reverse hp⟩
    | _ => cases hg) Q h
end
end Dn

namespace Dn
open PySem L2
open Evl (Ex)

/-! ## 19. A list of one's own, changed in place -/
def eMut1 (g : List D → D → Option (D × List D)) (i : Nat) (f : M O) : M O := fun e => match e[i]? with
  | some (some (.lst _)) => (f.bind fun o e' => match e'[i]? with
    | some (some (.lst ds)) => (match g ds o.d with
      | some (r, ds') => some (.ok (.fr r) (e'.set i (some (.lst ds'))))
      | none => none)
    | _ => none) e
  | _ => none
def eMut0 (g : List D → Option (D × List D)) (i : Nat) : M O := fun e => match e[i]? with
  | some (some (.lst ds)) => (match g ds with
    | some (r, ds') => some (.ok (.fr r) (e.set i (some (.lst ds'))))
    | none => none)
  | _ => none
def gApp (ds : List D) (d : D) : Option (D × List D) := if ds.length < sizeLine then some (.non, ds ++ [d]) else none
def gPop0 (ds : List D) (d : D) : Option (D × List D) := match d with
  | .int i => if -(2 ^ 63) ≤ i ∧ i < 2 ^ 63 then (ixN ds.length i).bind fun k => (ds[k]?).map fun y => (y, ds.eraseIdx k) else none
  | _ => none
def gPop (ds : List D) : Option (D × List D) := (ds[ds.length - 1]?).map fun y => (y, ds.dropLast)
def gExt (ds : List D) (d : D) : Option (D × List D) := match d with
  | .lst es => if ds.length + es.length ≤ sizeLine then some (.non, ds ++ es) else none
  | _ => none
def gRev (ds : List D) : Option (D × List D) := some (.non, ds.reverse)
def sSetIx (i : Nat) (fk fv : M O) : M Fl := fv.bind fun o e1 => match e1[i]? with
  | some (some (.lst _)) => (fk.bind fun k e => match e[i]? with
    | some (some (.lst ds)) => (match k with
      | .fr (.int j) => (match ixN ds.length j with
        | some n => some (.ok .next (e.set i (some (.lst (ds.set n o.d)))))
        | none => none)
      | _ => none)
    | _ => none) e1
  | _ => none

section
variable {K : PySem.W.Frag} {mg : Str → Option Value} {W : WX} {B B' H H' : Hp} {v : V} {o : O} {σ σ' : St} {e e' : Sl} {S S' : Nat → Addr → Prop} {T T' : Addr → Prop}
theorem Rp.mut (r : Rp K B H σ e S) {i : Nat} {l : Addr} {xs xs' : List V} {ds ds' : List D} (he : e[i]? = some (some (.lst ds))) (hσ : σ[i]? = some (some (.ref l))) (hl : H l = some (.lst xs)) (hr : RepL K B xs' ds') :
    Rp K B (L2.upd H l (.lst xs')) σ (e.set i (some (.lst ds'))) S ∧ Fr B H (tot S) B (L2.upd H l (.lst xs')) (tot S) := by
  obtain ⟨v, hv, p, ys, e1, h2, h3, h4⟩ := r.rep i _ he
  rw [hσ] at hv; cases hv
  cases e1
  have hS : S i l := (h4 l).mpr rfl
  have hb := (r.own i l hS).1
  have hlen : i < e.length := (List.getElem?_eq_some_iff.mp he).1
  refine ⟨⟨by rw [List.length_set]; exact r.len, fun a o ha => ?_, fun j o ho => ?_, r.dis, fun j a ha => ⟨(r.own j a ha).1, ?_⟩⟩, Fr.upd hl ⟨i, hS⟩⟩
  · rw [upd_ne (fun z => by subst z; rw [hb] at ha; cases ha)]; exact r.ex a o ha
  · by_cases hj : j = i
    · subst hj
      rw [List.getElem?_set_self hlen] at ho
      cases ho
      exact ⟨_, hσ, l, xs', rfl, upd_same, hr, h4⟩
    · rw [List.getElem?_set_ne (Ne.symm hj)] at ho
      obtain ⟨v, a1, a2⟩ := r.rep j o ho
      refine ⟨v, a1, ?_⟩
      cases o with
      | fr d => exact a2
      | lst es =>
        obtain ⟨q, zs, b1, b2, b3, b4⟩ := a2
        refine ⟨q, zs, b1, ?_, b3, b4⟩
        rw [upd_ne (fun z => by subst z; exact hj (r.dis j i q ((b4 q).mpr rfl) hS))]
        exact b2
      | dct es =>
        obtain ⟨q, zs, b1, b2, bk, b3, b4⟩ := a2
        refine ⟨q, zs, b1, ?_, bk, b3, b4⟩
        rw [upd_ne (fun z => by subst z; exact hj (r.dis j i q ((b4 q).mpr rfl) hS))]
        exact b2
      | ins c ns es =>
        obtain ⟨q, C, dx, zs, b1, b2, bc, bk, b3, b4⟩ := a2
        refine ⟨q, C, dx, zs, b1, ?_, bc, bk, b3, b4⟩
        rw [upd_ne (fun z => by subst z; exact hj (r.dis j i q ((b4 q).mpr rfl) hS))]
        exact b2
      | exn a d x => exact a2
  · by_cases hp : a = l
    · exact ⟨_, by rw [hp]; exact upd_same⟩
    · obtain ⟨_, o, h⟩ := r.own j a ha
      exact ⟨o, by rw [upd_ne hp]; exact h⟩
def Mu1 (K : PySem.W.Frag) (r : V → List V → Hp → VK → Prop) (g : List D → D → Option (D × List D)) : Prop := ∀ (B H : Hp) (l : Addr) (xs : List V) (ds : List D) (y : V) (d res : D) (ds' : List D), Ex B H → H l = some (.lst xs) → RepL K B xs ds → Rep K B y d → g ds d = some (res, ds') →
  ∀ Q : VK, (∀ rv xs', RepL K B xs' ds' → Rep K B rv res → Q rv (L2.upd H l (.lst xs'))) → r (.ref l) [y] H Q
def Mu0 (K : PySem.W.Frag) (r : V → List V → Hp → VK → Prop) (g : List D → Option (D × List D)) : Prop := ∀ (B H : Hp) (l : Addr) (xs : List V) (ds : List D) (res : D) (ds' : List D), Ex B H → H l = some (.lst xs) → RepL K B xs ds → g ds = some (res, ds') →
  ∀ Q : VK, (∀ rv xs', RepL K B xs' ds' → Rep K B rv res → Q rv (L2.upd H l (.lst xs'))) → r (.ref l) [] H Q
theorem fz_fr {S1 : Nat → Addr → Prop} {B1 H1 B2 : Hp} (f1 : Fr B H (tot S) B1 H1 (fun a => T a ∨ tot S1 a)) (f2 : Fr B1 H1 T B2 H1 noS) : Fr B H (tot S) B2 H1 (tot S1) :=
  f1.trans ⟨f2.b, fun a o q _ => q, fun a z => .inl (.inr z), fun a u q => (f2.c a u q).elim .inl fun z => .inr (z.elim (fun z => .inl (.inl z)) .inr), fun a o q => ⟨o, q⟩⟩
theorem mut1_run {r : V → List V → Hp → VK → Prop} {g : List D → D → Option (D × List D)} {i : Nat} {f : M O} {Q : VK} (hs : Mu1 K r g) (h : tE K mg W (eMut1 g i f) σ H Q) :
    tVar i σ H fun x H1 => tyV K "list" x H1 ∧ tCons (tE K mg W f) tNil σ H1 fun vs H2 => r x vs H2 Q := by
  obtain ⟨B, e, S, rp, h⟩ := h
  unfold eMut1 at h
  cases q : e[i]? with
  | none => rw [q] at h; exact h.elim
  | some u =>
    cases u with
    | none => rw [q] at h; exact h.elim
    | some o =>
      rw [q] at h
      cases o with
      | fr d => exact h.elim
      | dct _ _ => exact h.elim
      | ins _ _ _ => exact h.elim
      | exn _ _ _ => exact h.elim
      | lst ds =>
        obtain ⟨v, hv, p, ys, e1, h2, h3, h4⟩ := rp.rep i _ q
        subst e1
        refine ⟨_, hv, .inl ⟨rfl, _, Evl.sq_of h2⟩, B, e, S, rp, (show Post (M.bind f _ e) _ _ from h).bind.imp (fun o e1 h v1 B1 H1 S1 T vl f1 => ?_) fun _ _ z => z⟩
        obtain ⟨B2, vl2, f2⟩ := vl.freeze
        have f3 := fz_fr f1 f2
        show r (.ref p) [v1] H1 Q
        cases q1 : e1[i]? with
        | none => rw [q1] at h; exact h.elim
        | some u1 =>
          cases u1 with
          | none => rw [q1] at h; exact h.elim
          | some o1 =>
            rw [q1] at h
            cases o1 with
            | fr d => exact h.elim
            | dct _ _ => exact h.elim
            | ins _ _ _ => exact h.elim
            | exn _ _ _ => exact h.elim
            | lst ds1 =>
              dsimp only at h
              cases qg : g ds1 o.d with
              | none => rw [qg] at h; exact h.elim
              | some rr =>
                obtain ⟨res, ds'⟩ := rr
                rw [qg] at h
                obtain ⟨v', hv', p', ys', e1', k2, k3, k4⟩ := vl2.rp.rep i _ q1
                rw [hv] at hv'; cases hv'
                cases e1'
                refine hs B2 H1 p ys' ds1 v1 _ res ds' vl2.rp.ex k2 k3 vl2.ro.1 qg Q fun rv xs' hx hrv => ?_
                obtain ⟨r4, f4⟩ := vl2.rp.mut q1 hv k2 hx
                exact (show ∀ v B' H' S' T, Vl K B' H' σ _ S' v (.fr res) T → Fr B H (tot S) B' H' (fun a => T a ∨ tot S' a) → Q v H' from h) rv B2 _ S1 noS (.fr r4 hrv) ((f3.trans f4).imp (fun _ z => z) fun a z => z.elim (fun z => z.elim) id)
theorem mut0_run {r : V → List V → Hp → VK → Prop} {g : List D → Option (D × List D)} {i : Nat} {Q : VK} (hs : Mu0 K r g) (h : tE K mg W (eMut0 g i) σ H Q) :
    tVar i σ H fun x H1 => tyV K "list" x H1 ∧ r x [] H1 Q := by
  obtain ⟨B, e, S, rp, h⟩ := h
  unfold eMut0 at h
  cases q : e[i]? with
  | none => rw [q] at h; exact h.elim
  | some u =>
    cases u with
    | none => rw [q] at h; exact h.elim
    | some o =>
      rw [q] at h
      cases o with
      | fr d => exact h.elim
      | dct _ _ => exact h.elim
      | ins _ _ _ => exact h.elim
      | exn _ _ _ => exact h.elim
      | lst ds =>
        obtain ⟨v, hv, p, ys, e1, h2, h3, h4⟩ := rp.rep i _ q
        subst e1
        refine ⟨_, hv, .inl ⟨rfl, _, Evl.sq_of h2⟩, ?_⟩
        dsimp only at h
        cases qg : g ds with
        | none => rw [qg] at h; exact h.elim
        | some rr =>
          obtain ⟨res, ds'⟩ := rr
          rw [qg] at h
          refine hs B H p ys ds res ds' rp.ex h2 h3 qg Q fun rv xs' hx hrv => ?_
          obtain ⟨r4, f4⟩ := rp.mut q hv h2 hx
          exact (show ∀ v B' H' S' T, Vl K B' H' σ _ S' v (.fr res) T → Fr B H (tot S) B' H' (fun a => T a ∨ tot S' a) → Q v H' from h) rv B _ S noS (.fr r4 hrv) (f4.imp (fun _ z => z) fun a z => z.elim (fun z => z.elim) id)
theorem u_app : Mu1 K rAppend gApp := fun B H l xs ds y d res ds' hx hl hr hy hg Q q => by
  unfold gApp at hg
  split at hg
  · rename_i hz
    cases hg
    exact ⟨l, xs, y, rfl, rfl, hl, by rw [hr.length]; exact hz, q .non _ (hr.append (.one hy)) .non⟩
  · cases hg
theorem u_pop0 : Mu1 K rPopAt gPop0 := fun B H l xs ds y d res ds' hx hl hr hy hg Q q => by
  unfold gPop0 at hg
  split at hg
  · rename_i i
    split at hg
    · rename_i hz
      obtain ⟨k, hk, hg⟩ := Option.bind_eq_some_iff.mp hg
      obtain ⟨z, hz2, e2⟩ := Option.map_eq_some_iff.mp hg
      cases e2; cases hy
      obtain ⟨v, hv, rv⟩ := hr.get hz2
      exact ⟨l, xs, i, k, v, rfl, rfl, hl, hz.1, hz.2, by rw [hr.length]; exact (ixN_seq hk).1, hv, q v _ (hr.erase k) rv⟩
    · cases hg
  · cases hg
theorem RepL.dropLast {xs : List V} {ds : List D} (h : RepL K B xs ds) : RepL K B xs.dropLast ds.dropLast := by
  rw [List.dropLast_eq_take, List.dropLast_eq_take, h.length]
  exact h.take _
theorem u_pop : Mu0 K rPop gPop := fun B H l xs ds res ds' hx hl hr hg Q q => by
  obtain ⟨z, hz2, e2⟩ := Option.map_eq_some_iff.mp hg
  cases e2
  obtain ⟨v, hv, rv⟩ := hr.get hz2
  exact ⟨l, xs, v, rfl, rfl, hl, by rw [hr.length]; exact hv, q v _ hr.dropLast rv⟩
theorem u_rev : Mu0 K rReverse gRev := fun B H l xs ds res ds' hx hl hr hg Q q => by
  cases hg
  exact ⟨l, xs, rfl, rfl, hl, q .non _ hr.reverse .non⟩
theorem u_ext : Mu1 K rExtend gExt := fun B H l xs ds y d res ds' hx hl hr hy hg Q q => by
  unfold gExt at hg
  split at hg
  · split at hg
    · rename_i hz
      cases hg
      cases hy with
      | lst h1 h2 => exact ⟨l, _, xs, _, rfl, rfl, hl, hx _ _ h1, by rw [hr.length, h2.length]; exact hz, q .non _ (hr.append h2) .non⟩
    · cases hg
  · cases hg
end
section
variable {X : Cx} {W : WX} {e k : Expr} {f g : M O} {i : Nat} {x name : Str} {id : String} {p apos pos : Pos} {r : V → List V → Hp → VK → Prop}
theorem d_mut1 {G : List D → D → Option (D × List D)} (hv : PE X (.Name x p) (tVar i)) (slot : Slot "list" name id) (hty : typeOf (.builtin id) = pure (.type "method_descriptor")) (hm : MtR X id r) (hs : Mu1 X.K r G) (he : PE X e (tE X.K X.mg W f))
    (hbase : attributeBase (.Name x p) name X.env (eval (.Name x p) X.env) = eval (.Name x p) X.env := by rfl)
    (hfew : ((backTo pos (starEach (e :: []) X.env)).all (fun x => !x.1) && (backToKw pos (keywordEach [] X.env)).all (fun x => x.1.isSome)
      && decide ((e :: []).length + ([] : List Keyword).length + (if ([] : List Keyword).isEmpty then 0 else 1) < 30)) = true := by rfl)
    (hline : (apos.endLine == pos.line) = true := by rfl) (hst : starEach (e :: []) X.env = (false, eval e X.env) :: starEach [] X.env := by rfl) (hpl : (backTo pos (starEach [] X.env)).any (·.1) = false := by rfl) :
    PE X (.Call (.Attribute (.Name x p) name apos) [e] [] pos) (tE X.K X.mg W (eMut1 G i f)) := pe_imp (pe_bm PySem.F.plainAttrs_list slot hty hm hv (pa_cons he pa_nil hst) hbase hfew hline hst hpl) fun σ H Q h => mut1_run hs h
theorem d_mut0 {G : List D → Option (D × List D)} (hv : PE X (.Name x p) (tVar i)) (slot : Slot "list" name id) (hty : typeOf (.builtin id) = pure (.type "method_descriptor")) (hm : MtR X id r) (hs : Mu0 X.K r G)
    (hbase : attributeBase (.Name x p) name X.env (eval (.Name x p) X.env) = eval (.Name x p) X.env := by rfl) (hline : (apos.endLine == pos.line) = true := by rfl) :
    PE X (.Call (.Attribute (.Name x p) name apos) [] [] pos) (tE X.K X.mg W (eMut0 G i)) := pe_imp (pe_bm0 PySem.F.plainAttrs_list slot hty hm hv hbase hline) fun σ H Q h => mut0_run hs h
theorem s_setIx {ks : List Nat} {p2 : Pos} (hv : PE X (.Name x p) (tVar i)) (hk : PE X k (tE X.K X.mg W f)) (he : PE X e (tE X.K X.mg W g))
    (ha : ∀ v, assign (.Subscript (.Name x p) k p2) X.env v = (do
      let ov ← holding [v] (eval (.Name x p) X.env)
      let iv ← holding [v, ov] (eval k X.env)
      standAt p2
      holding [v, ov, iv] (setItem ov iv v)
      release [v, ov, iv] []) := by intro _; rfl)
    (hs : swapsWithSole [.Subscript (.Name x p) k p2] e pos.line X.env = pure false := by rfl) (hw : swappedStores [.Subscript (.Name x p) k p2] e X.env = pure none := by rfl)
    (h1 : (assignEach [.Subscript (.Name x p) k p2] X.env).map (·.2) = [assign (.Subscript (.Name x p) k p2) X.env] := by rfl) :
    PS X (.Assign [.Subscript (.Name x p) k p2] e pos) (tS X.K X.mg W ks (sSetIx i f g)) := ps_imp (ps_asg he (pg_sub hv hk set_list ha) hs hw h1) fun D σ H h => by
  obtain ⟨B, e, S, r, h⟩ := h
  refine ⟨B, e, S, r, h.bind.imp (fun o e1 h v1 B1 H1 S1 T vl f1 => ?_) fun _ _ z => ExS.toE z⟩
  obtain ⟨B2, vl2, f2⟩ := vl.freeze
  have f3 := fz_fr f1 f2
  cases q : e1[i]? with
  | none => rw [q] at h; exact h.elim
  | some u =>
    cases u with
    | none => rw [q] at h; exact h.elim
    | some o1 =>
      rw [q] at h
      cases o1 with
      | fr d => exact h.elim
      | dct _ _ => exact h.elim
      | ins _ _ _ => exact h.elim
      | exn _ _ _ => exact h.elim
      | lst ds0 =>
        obtain ⟨v, hv, l, ys, ev, _, _, _⟩ := vl2.rp.rep i _ q
        subst ev
        refine ⟨_, hv, B2, e1, S1, vl2.rp, (show Post (M.bind f _ e1) _ _ from h).bind.imp (fun ko e2 h v2 B3 H3 S3 T3 vl3 f4 => ?_) fun x e2 z => ExS.toE (ExS.step z (Kp.refl _ _) f3)⟩
        cases q1 : e2[i]? with
        | none => rw [q1] at h; exact h.elim
        | some u1 =>
          cases u1 with
          | none => rw [q1] at h; exact h.elim
          | some o1 =>
            rw [q1] at h
            cases o1 with
            | fr d => exact h.elim
            | dct _ _ => exact h.elim
            | ins _ _ _ => exact h.elim
            | exn _ _ _ => exact h.elim
            | lst ds1 =>
              dsimp only at h
              split at h
              · rename_i j
                split at h
                · rename_i n hn
                  obtain ⟨v', hv', p', ys', e1', k2, k3, k4⟩ := vl3.rp.rep i _ q1
                  rw [hv] at hv'; cases hv'
                  cases e1'
                  have hj := vl3.ro.1
                  cases hj
                  obtain ⟨r5, f5⟩ := vl3.rp.mut q1 hv k2 (k3.set n (vl2.ro.1.mono f4.b))
                  exact ⟨_, ys', j, n, rfl, rfl, k2, by rw [k3.length]; exact hn, (show Nd X.K D ks B H S σ .next _ from h) σ B3 _ S3 r5 (Kp.refl _ _) ((f3.trans f4.weak).trans f5)⟩
                · exact h.elim
              · exact h.elim
end

/-! ## 20. The law -/
def spLaw (K : PySem.W.Frag) : Sp := fun vs H Q _ => ∃ (a : Addr) (ns : List Int), vs = [.ref a] ∧ SqL K H a (ns.map V.int) ∧ ns.length ≤ 63 ∧ ∀ H', Q (.bl true) H'
theorem law_sp {P : Program} {w : World} {K : PySem.W.Frag} {mg : Str → Option Value} {base : Heap} {CX : CXT} {k : Nat} {f : Addr} {fd : FuncData} {ps : List Str} {F : Fn} (h : FnOk P w K mg base CX k f fd ps (spD K mg 1 F))
    (hF : ∀ ns : List Int, ns.length ≤ 63 → ∃ os, F [.fr (.scr ns)] = some (.ok (bO true) os)) : FnOk P w K mg base CX k f fd ps (spLaw K) := h.imp fun vs H Q E ⟨a, ns, ev, hs, hl, q⟩ => by
  subst ev
  obtain ⟨os, e⟩ := hF ns hl
  refine ⟨rfl, H, [.fr (.scr ns)], fun _ => noS, ⟨rfl, Ex.refl H, fun i o ho => ?_, fun _ _ _ z => z.elim, fun _ _ z => z.elim⟩, ?_⟩
  · cases i with
    | zero =>
      have ho' : some (some (O.fr (D.scr ns))) = some (some o) := ho
      cases ho'
      exact ⟨_, rfl, .scr hs, fun _ z => z⟩
    | succ i => simp at ho
  · rw [e]
    intro v B' H' S' T _ vl _
    have hr := vl.ro.1
    cases hr
    exact q H'
theorem law_cx {P : Program} {w : World} (H : Hp) (s : Shared) (e : Value) (s' : Shared) (h : L2.CX P w [] H s (fun _ _ _ => False) e s') : False := by
  obtain ⟨_, _, _, _, _, _, _, _, _, _, _, _, z⟩ := h
  exact z
end Dn

namespace Dn
open PySem L2
open Evl (Ex)

/-! ## 21. Further forms -/
theorem _root_.L2.Room.units5 {k : Nat} {A : Around} (r : Room k A) : A.units + 65 < cLine := by have := r.un; omega
section
variable {X : Cx} {W : WX}
theorem d_g {x : Str} {pos : Pos} {v : V} {d : D} (hg : Gl X x) (h : ∃ u, X.mg x = some u ∧ RelV v u) (hr : ∀ B, Rep X.K B v d) (hdb : (x == ("__debug__" : Str)) = false := by decide) : PE X (.Name x pos) (tE X.K X.mg W (eC d)) := by
  obtain ⟨u, h1, h2⟩ := h
  exact d_c (pe_glob hg h1 h2 hdb) hr
theorem d_call0 {x : Str} {p pos : Pos} {k j n : Nat} {F : Fn} {dv : List D} (C : Cl X.prog X.w X.K X.mg X.base k x n F dv) (hr : Room j X.A) (tk : Takes X W) (hk : k ≤ j := by decide) (hg : Gl X x := by rfl) (hn : n = ([] : List P).length + dv.length := by rfl)
    (hdb : (x == ("__debug__" : Str)) = false := by decide) : PE X (.Call (.Name x p) [] [] pos) (tE X.K X.mg W (eCall F [] dv)) := by
  obtain ⟨f, fd, pn, ds, dvs, h0, h1, h2, h3, h4, h5, h6⟩ := C.ex
  have hl : dvs.length = dv.length := (h6 fun _ => none).length
  refine ⟨fun pins s σ H Q I h => ?_⟩
  refine wpAny_Call_Name_kw (ld_glob I hg h2 ?_ hdb)
  exact PySem.W.callWith_K0 I.kIn h3 (run_fnSD (us := []) (E := WE W) h1 (hr.mono hk) h4 h5 (passAt tk σ) I .nil (call_core (W := W) hl (h0.trans hn) (by decide) h6 h))
end
theorem cl_mk {P : Program} {w : World} {K : PySem.W.Frag} {mg : Str → Option Value} {base : Heap} {k n : Nat} {x : Str} {F : Fn} {f : Addr} {fd : FuncData} {ps : List Str} (h : FnOk P w K mg base (L2.CX P w) k f fd ps (spD K mg n F)) (hm : mg x = some (.ref f)) (hk : PySem.W.keepIn K (.ref f) = true) (hb : Binds K fd ps []) (hn : ps.length = n := by rfl) : Cl P w K mg base k x n F [] :=
  ⟨f, fd, ps, [], [], hn, by rw [hn]; exact h, hm, hk, hb, .nil, fun _ => .nil⟩

/-! ### a op1 b op2 c -/
def eChain (g g2 : List D → Option O) (fa fb fc : M O) : M O := fa.bind fun oa => fb.bind fun ob e => match g [oa.d, ob.d] with
  | some (.fr (.bl true)) => (fc.bind fun oc e => (g2 [ob.d, oc.d]).map fun o => .ok o e) e
  | some (.fr (.bl false)) => some (.ok (bO false) e)
  | _ => none
section
variable {K : PySem.W.Frag} {mg : Str → Option Value} {W : WX} {σ : St} {H : Hp}
theorem chain_run {r r2 : R2} {g g2 : List D → Option O} {fa fb fc : M O} {Q : VK} (hs : Snd2 K r g) (hs2 : Snd2 K r2 g2) (h : tE K mg W (eChain g g2 fa fb fc) σ H Q) : tChain r r2 (tE K mg W fa) (tE K mg W fb) (tE K mg W fc) σ H Q := by
  obtain ⟨B, e, S, rp, h⟩ := h
  refine ⟨B, e, S, rp, h.bind.imp (fun oa e1 h va B1 H1 S1 T1 vl1 f1 => ?_) fun _ _ z => z⟩
  have f1' := f1.weak (S' := S1)
  refine ⟨B1, e1, S1, vl1.rp, h.bind.imp (fun ob e2 h vb B2 H2 S2 T2 vl2 f2 => ?_) fun _ _ z => z.step f1'⟩
  have f2' := f2.weak (S' := S2)
  have f12 := f1'.trans f2'
  obtain ⟨ro1, _, _⟩ := vl1.ro.frame vl1.own vl1.dj f2
  have go : ∀ o, g [oa.d, ob.d] = some o → Post (match some o with
      | some (.fr (.bl true)) => (fc.bind fun oc e => (g2 [ob.d, oc.d]).map fun o => .ok o e) e2
      | some (.fr (.bl false)) => some (.ok (bO false) e2)
      | _ => none) (fun o e' => ∀ v B' H' S' T, Vl K B' H' σ e' S' v o T → Fr B H (tot S) B' H' (fun a => T a ∨ tot S' a) → Q v H') (fun x e' => ExE K mg W B H S σ x e') →
      r va vb H2 fun z H3 => ∃ k, z = .bl k ∧ (if k = true then tE K mg W fc σ H3 fun w' H4 => r2 vb w' H4 Q else Q (.bl false) H3) := fun o ho h => by
    refine hs B2 H2 va vb _ _ o vl2.rp.ex (ro1.rd vl2.rp.ex) (vl2.ro.rd vl2.rp.ex) ho _ fun v B3 H3 T gr ro hn ow => ?_
    cases o with
    | lst _ => exact h.elim
    | dct _ _ => exact h.elim
    | ins _ _ _ => exact h.elim
    | exn _ _ _ => exact h.elim
    | fr d =>
      cases d with
      | bl b =>
        have rv := ro.1
        cases rv
        have r3 := vl2.rp.grow gr
        have f3 : Fr B H (tot S) B3 H3 (tot S2) := f12.trans (gr.fr _)
        cases b with
        | false => exact ⟨false, rfl, iteF ((show ∀ v B' H' S' T, Vl K B' H' σ e2 S' v (bO false) T → Fr B H (tot S) B' H' (fun a => T a ∨ tot S' a) → Q v H' from h) _ B3 H3 S2 noS (.fr r3 (.bl _)) (f3.imp (fun _ z => z) fun a z => z.elim (fun z => z.elim) id))⟩
        | true =>
          refine ⟨true, rfl, iteT ⟨B3, e2, S2, r3, (show Post (M.bind fc _ e2) _ _ from h).bind.imp (fun oc e3 h vc B4 H4 S4 T4 vl4 f4 => ?_) fun _ _ z => z.step f3⟩⟩
          obtain ⟨o2, ho2, h⟩ := ap_end h
          obtain ⟨ro2, _, _⟩ := ((vl2.ro.grow gr)).frame (vl2.own.grow gr) vl2.dj f4
          exact hs2 B4 H4 vb vc _ _ o2 vl4.rp.ex (ro2.rd vl4.rp.ex) (vl4.ro.rd vl4.rp.ex) ho2 Q (vl4.rp.giv fun v B5 H5 S5 T5 vl5 f5 => h v B5 H5 S5 T5 vl5 ((f3.trans f4.weak).trans f5))
      | _ => exact h.elim
  cases q : g [oa.d, ob.d] with
  | none => simp only [q] at h; exact h.elim
  | some o => simp only [q] at h; exact go o q h
end
section
variable {X : Cx} {W : WX} {a b c e : Expr} {fa fb fc f : M O} {op op2 : CmpOp} {r r2 : R2} {g g2 : List D → Option O} {pos : Pos} {p : P}
theorem d_chain (ho : OpR X (compareOp op) r) (hs : Snd2 X.K r g) (ho2 : OpR X (compareOp op2) r2) (hs2 : Snd2 X.K r2 g2) (ha : PE X a (tE X.K X.mg W fa)) (hb : PE X b (tE X.K X.mg W fb)) (hc : PE X c (tE X.K X.mg W fc))
    (hm : lastMarks [op, op2] [b, c] = false := by with_unfolding_all rfl) : PE X (.Compare a [op, op2] [b, c] pos) (tE X.K X.mg W (eChain g g2 fa fb fc)) := pe_imp (pe_chain ho ho2 ha hb hc hm) fun _ _ _ h => chain_run hs hs2 h
theorem c_chain (ho : OpR X (compareOp op) r) (hs : Snd2 X.K r g) (ho2 : OpR X (compareOp op2) r2) (hs2 : Snd2 X.K r2 g2) (ha : PE X a (tE X.K X.mg W fa)) (hb : PE X b (tE X.K X.mg W fb)) (hc : PE X c (tE X.K X.mg W fc))
    (hm : lastMarks [op, op2] [b, c] = false := by with_unfolding_all rfl) : PT X (.Compare a [op, op2] [b, c] pos) (tT X.K X.mg W (tst (eChain g g2 fa fb fc))) := pt_imp (pt_chain ho ho2 ha hb hc hm) fun σ H Q h => by
  obtain ⟨B, e, S, r, h⟩ := h
  refine chain_run hs hs2 (mg := X.mg) (W := W) ⟨B, e, S, r, h.bind.imp (fun o e' h v B' H' S' T vl f => ?_) fun _ _ z => z⟩
  cases o with
  | lst ds => exact h.elim
  | dct _ _ => exact h.elim
  | ins _ _ _ => exact h.elim
  | exn _ _ _ => exact h.elim
  | fr d =>
    cases d with
    | bl b =>
      have hr := vl.ro.1
      cases hr
      exact ⟨b, rfl, h B' H' S' vl.rp (f.imp (fun _ z => z) fun _ z => .inr z)⟩
    | _ => exact h.elim
/-! ### truth -/
def truD : D → Option Bool
  | .non => some false
  | .bl b => some b
  | .int i => some (i != 0)
  | .str z => if z.length ≤ sizeLine then some ((z.length : Int) != 0) else none
  | .lst ds => some (!ds.isEmpty)
  | .tup ds => some (!ds.isEmpty)
  | .scr ns => some (!ns.isEmpty)
  | _ => none
def tru (p : P) : M Bool := (ops [p]).bind fun ds e => match ds with
  | [d] => (truD d).map fun b => .ok b e
  | _ => none
theorem repL_empty {K : PySem.W.Frag} {B : Hp} {xs : List V} {ds : List D} (h : RepL K B xs ds) : (!ds.isEmpty) = !xs.isEmpty := by cases h <;> rfl
theorem c_tru (h : PE X e (tP X.K X.mg W p)) (he : ∀ whole, isTrue e X.env whole = (do let v ← whole; standAt e.pos; holding [v] (truthy v)) := by intro _; rfl) : PT X e (tT X.K X.mg W (tru p)) := pt_imp (pt_truth h he) fun σ H Q h => by
  obtain ⟨B, e, S, rp, h⟩ := h
  have key := ops_run (K := X.K) (mg := X.mg) (W := W) (σ := σ) [p] (fun vs H' => ∀ x, vs = [x] → ∃ k, TruV X.K x H' k ∧ Q k H') rp (h.bind.imp (fun ds e' h vs B' H' S' r' rl f x ev => ?_) fun _ _ z => z)
  · have key' : tP X.K X.mg W p σ H fun x H1 => ∀ x', [x] = [x'] → ∃ k, TruV X.K x' H1 k ∧ Q k H1 := key
    exact tP_mono _ _ _ _ _ (fun x H1 t => t x rfl) key'
  · subst ev
    cases rl with
    | cons h1 rl =>
      cases rl
      rename_i d
      have h0 : Post ((truD d).map fun b => Ro.ok b e') (fun b e' => ∀ B' H' S', Rp X.K B' H' σ e' S' → Fr B H (tot S) B' H' (tot S') → Q b H') (fun x e' => ExE X.K X.mg W B H S σ x e') := h
      cases q : truD d with
      | none => rw [q] at h0; exact h0.elim
      | some b =>
        rw [q] at h0
        have h2 : ∀ B' H' S', Rp X.K B' H' σ e' S' → Fr B H (tot S) B' H' (tot S') → Q b H' := h0
        refine ⟨b, ?_, h2 B' H' S' r' f⟩
        cases d with
        | non => cases h1; cases q; rfl
        | bl b => cases h1; cases q; rfl
        | int b => cases h1; cases q; rfl
        | str z =>
          cases h1
          have q' : (if z.length ≤ sizeLine then some ((z.length : Int) != 0) else none) = some b := q
          by_cases hz : z.length ≤ sizeLine
          · rw [if_pos hz] at q'; cases q'; exact ⟨hz, rfl⟩
          · rw [if_neg hz] at q'; cases q'
        | opq => cases q
        | dct _ _ => cases q
        | ins _ _ _ => cases q
        | lst ds => obtain ⟨a, xs, rfl, k1, k2⟩ := h1; cases q; exact .inl ⟨xs, Evl.sq_of k1, repL_empty k2⟩
        | tup ds => cases h1 with
          | tup k1 k2 => cases q; exact .inr (.inl ⟨_, Evl.ex_t r'.ex k1, repL_empty k2⟩)
        | scr ns => cases h1 with
          | scr k1 => cases q; exact .inl ⟨_, Evl.ex_l r'.ex k1, by cases ns <;> rfl⟩
/-! ### x op= e, a, b = e -/
def sAug (g : List D → Option O) (i : Nat) (f : M O) : M Fl := fun e => match e[i]? with
  | some (some (.fr a)) => (f.bind fun o e' => match g [a, o.d] with
    | some (.fr r) => some (.ok .next (e'.set i (some (.fr r))))
    | _ => none) e
  | _ => none
def gAddI : List D → Option O
  | [.int i, .int j] => some (iO (i + j))
  | _ => none
theorem n_addI {K : PySem.W.Frag} : Snd2 K (ipI fun i j => i + j) gAddI := fun B H x y a b o hx ha hb hg Q q => by
  cases a <;> cases b <;> simp only [gAddI] at hg <;> (try cases hg)
  cases ha; cases hb
  exact ⟨_, _, rfl, rfl, q.fr hx (.int _)⟩
theorem n_subI {K : PySem.W.Frag} : Snd2 K (ipI fun i j => i - j) gSub := fun B H x y a b o hx ha hb hg Q q => by
  cases a <;> cases b <;> simp only [gSub] at hg <;> (try cases hg)
  cases ha; cases hb
  exact ⟨_, _, rfl, rfl, q.fr hx (.int _)⟩
theorem s_aug {ks : List Nat} {i : Nat} {x : Str} {op : Operator} {ti : TIp} {pos' : Pos} (hN : X.N.Nodup) (hi : X.N[i]? = some x) (hx : Loc X.env.scope x) (he : PE X e (tE X.K X.mg W f)) (ho : PIp X op ti) (hs : Snd2 X.K ti g) (hk : i ∉ ks := by decide) (hf : X.fn x = true ∨ X.env.scope.names.lookup x = some .local := by first | exact .inl rfl | exact .inr rfl | assumption) :
    PS X (.AugAssign (.Name x pos') op e pos) (tS X.K X.mg W ks (sAug g i f)) := ps_imp (ps_aug hN hi hx he ho hf) fun D σ H h => by
  obtain ⟨B, e, S, r, h⟩ := h
  unfold sAug at h
  cases q : e[i]? with
  | none => rw [q] at h; exact h.elim
  | some u =>
    cases u with
    | none => rw [q] at h; exact h.elim
    | some o =>
      rw [q] at h
      cases o with
      | lst _ => exact h.elim
      | dct _ _ => exact h.elim
      | ins _ _ _ => exact h.elim
      | exn _ _ _ => exact h.elim
      | fr a =>
        obtain ⟨v, hv, ro⟩ := r.rep i _ q
        refine ⟨v, hv, B, e, S, r, (show Post (M.bind f _ e) _ _ from h).bind.imp (fun o e1 h y B1 H1 S1 T vl f1 => ?_) fun _ _ z => ExS.toE z⟩
        have f1' := f1.weak (S' := S1)
        cases qg : g [a, o.d] with
        | none => rw [qg] at h; exact h.elim
        | some res =>
          rw [qg] at h
          cases res with
          | lst _ => exact h.elim
          | dct _ _ => exact h.elim
          | ins _ _ _ => exact h.elim
          | exn _ _ _ => exact h.elim
          | fr d =>
            refine hs B1 H1 v y a _ _ vl.rp.ex ((ro.1.mono f1.b).rd vl.rp.ex) (vl.ro.rd vl.rp.ex) qg _ fun z B2 H2 T2 gr roz _ _ => ?_
            have vl2 : Vl X.K B2 H2 σ e1 S1 z (.fr d) noS := .fr (vl.rp.grow gr) roz.1
            exact (show Nd X.K D ks B H S σ .next _ from h) _ B2 H2 _ (vl2.set i) (Kp.set hk) ((f1'.trans (gr.fr _)).imp (fun _ z => z) fun a z => (tot_set z).elim (fun z => z.elim) id)
def sSetT (tg : Tg) (f : M O) : M Fl := f.bind fun o e => (tg.go o.d e).map fun e' => .ok .next e'
theorem s_setT {ks : List Nat} {t : Expr} {tg : Tg} (he : PE X e (tE X.K X.mg W f)) (hg : PG X t (tTg X.K tg)) (hk : ∀ i ∈ tg.ix, i ∉ ks) (hs : swapsWithSole [t] e pos.line X.env = pure false := by rfl) (hw : swappedStores [t] e X.env = pure none := by rfl)
    (h1 : (assignEach [t] X.env).map (·.2) = [assign t X.env] := by rfl) : PS X (.Assign [t] e pos) (tS X.K X.mg W ks (sSetT tg f)) := ps_imp (ps_asg he hg hs hw h1) fun D σ H h => by
  obtain ⟨B, e, S, r, h⟩ := h
  refine ⟨B, e, S, r, h.bind.imp (fun o e1 h v B1 H1 S1 T vl f1 => ?_) fun _ _ z => ExS.toE z⟩
  obtain ⟨B2, vl2, f2⟩ := vl.freeze
  have f3 := fz_fr f1 f2
  cases q : tg.go o.d e1 with
  | none => rw [q] at h; exact h.elim
  | some e2 =>
    rw [q] at h
    exact tg_run (ks := ks) vl2.rp vl2.ro.1 q hk fun σ' S' r' k' t' _ => (show Nd X.K D ks B H S σ .next e2 from h) σ' B2 H1 S' r' k' (f3.imp (fun _ z => z) t')
end
end Dn

namespace Dn
open PySem L2
theorem bt_len : bootBuiltins "len" = some (.builtin "len") := by decide +kernel
theorem bt_int : bootBuiltins "int" = some (.type "int") := by decide +kernel
theorem bt_abs : bootBuiltins "abs" = some (.builtin "abs") := by decide +kernel
theorem bt_ord : bootBuiltins "ord" = some (.builtin "ord") := by decide +kernel
theorem bt_list : bootBuiltins "list" = some (.type "list") := by decide +kernel
theorem bt_tuple : bootBuiltins "tuple" = some (.type "tuple") := by decide +kernel
theorem bt_all : bootBuiltins "all" = some (.builtin "all") := by decide +kernel
theorem bt_any : bootBuiltins "any" = some (.builtin "any") := by decide +kernel
theorem bt_sum : bootBuiltins "sum" = some (.builtin "sum") := by decide +kernel
theorem bt_str : bootBuiltins "str" = some (.type "str") := by decide +kernel
theorem bt_bool : bootBuiltins "bool" = some (.type "bool") := by decide +kernel
theorem bt_isinstance : bootBuiltins "isinstance" = some (.builtin "isinstance") := by decide +kernel
theorem bt_repr : bootBuiltins "repr" = some (.builtin "repr") := by decide +kernel
theorem bt_max : bootBuiltins "max" = some (.builtin "max") := by decide +kernel
theorem bt_min : bootBuiltins "min" = some (.builtin "min") := by decide +kernel
theorem bt_sorted : bootBuiltins "sorted" = some (.builtin "sorted") := by decide +kernel
end Dn

namespace Dn
open PySem L2
open PyProof.Rows (envOfC)
section
variable {P : Program} {w : World} {K : PySem.W.Frag} {mg : Str → Option Value} {base : Heap}
theorem fn_dnX {x qual : Str} {st : Stmt} {f : Addr} {fd : FuncData} {N ps : List Str} {k : Nat} {ks : List Nat} {g : M Fl} (F : FunX K x qual st f fd) (Sc : FnScope N ps (defScope st)) (n m : Nat) (hn : ps.length = n) (hm : N.length = m)
    (hb : ∀ (cdv : Value) (A : Around) (outer : List PySem.Env) (s : Shared) (H : Hp) (E : XK), Room k (A.deeper (envOfC qual (defScope st) s.heap.objs.size f cdv)) →
      Takes (cxOf (L2.CX P w) P w K mg base N qual (defScope st) f cdv A outer s H E) (fun cls d _ H => E cls d H) →
      PassesOwn (model P w) (A.deeper (envOfC qual (defScope st) s.heap.objs.size f cdv)) (envOfC qual (defScope st) s.heap.objs.size f cdv) (cxOf (L2.CX P w) P w K mg base N qual (defScope st) f cdv A outer s H E).xe →
      PSs (cxOf (L2.CX P w) P w K mg base N qual (defScope st) f cdv A outer s H E) (defBody st) (tS K mg (fun cls d _ H => E cls d H) ks g)) :
    FnOk P w K mg base (L2.CX P w) (k + 1) f fd ps (spD K mg n (mkF m ks g)) := by
  subst hn
  subst hm
  exact fn_den F Sc hb
theorem fn_dn {x qual : Str} {st : Stmt} {f : Addr} {fd : FuncData} {N ps : List Str} {k : Nat} {ks : List Nat} {g : M Fl} (F : Fun K x qual st f fd) (Sc : FnScope N ps (defScope st)) (n m : Nat) (hn : ps.length = n) (hm : N.length = m)
    (hb : ∀ (cdv : Value) (A : Around) (outer : List PySem.Env) (s : Shared) (H : Hp) (E : XK), Room k (A.deeper (envOfC qual (defScope st) s.heap.objs.size f cdv)) →
      Takes (cxOf (L2.CX P w) P w K mg base N qual (defScope st) f cdv A outer s H E) (fun cls d _ H => E cls d H) →
      PassesOwn (model P w) (A.deeper (envOfC qual (defScope st) s.heap.objs.size f cdv)) (envOfC qual (defScope st) s.heap.objs.size f cdv) (cxOf (L2.CX P w) P w K mg base N qual (defScope st) f cdv A outer s H E).xe →
      PSs (cxOf (L2.CX P w) P w K mg base N qual (defScope st) f cdv A outer s H E) (defBody st) (tS K mg (fun cls d _ H => E cls d H) ks g)) :
    FnOk P w K mg base (L2.CX P w) (k + 1) f fd ps (spD K mg n (mkF m ks g)) := by
  exact fn_dnX (fun_x F) Sc n m hn hm hb
end
end Dn

namespace Dn
open PySem L2

/-! ## 22. Reckoning with what is computed -/
theorem sl_val : sizeLine = 16777216 := sizeLine_eq
/-- a for: I between two turns; it may be left by a return (R) or a break (Bk) -/
theorem forL_gen {tg : Tg} {body : M Fl} (I : Nat → Sl → Prop) (R : O → Sl → Prop) (Bk : Sl → Prop) : ∀ (ds : List D) (e : Sl), I 0 e →
    (∀ (i : Nat) (d : D) (e : Sl), ds[i]? = some d → I i e → ∃ e1, tg.go d e = some e1 ∧ ((∃ e2, (body e1 = some (.ok .next e2) ∨ body e1 = some (.ok .cnt e2)) ∧ I (i + 1) e2) ∨ (∃ o e2, body e1 = some (.ok (.ret o) e2) ∧ R o e2) ∨ (∃ e2, body e1 = some (.ok .brk e2) ∧ Bk e2))) →
    (∃ e', forL tg body ds e = some (.ok .next e') ∧ (I ds.length e' ∨ Bk e')) ∨ (∃ o e', forL tg body ds e = some (.ok (.ret o) e') ∧ R o e')
  | [], e, h0, _ => .inl ⟨e, rfl, .inl h0⟩
  | d :: ds, e, h0, hs => by
    obtain ⟨e1, h1, h2⟩ := hs 0 d e rfl h0
    have ih := fun e2 (h : I 1 e2) => forL_gen (fun i => I (i + 1)) R Bk ds e2 h fun i d' e' hd hi => hs (i + 1) d' e' hd hi
    rcases h2 with ⟨e2, hb, hi⟩ | ⟨o, e2, hb, hr⟩ | ⟨e2, hb, hk⟩
    · have q : forL tg body (d :: ds) e = forL tg body ds e2 := by
        rcases hb with hb | hb <;> (simp only [forL, h1, hb])
      rw [q]
      exact ih e2 hi
    · exact .inr ⟨o, e2, by simp only [forL, h1, hb], hr⟩
    · exact .inl ⟨e2, by simp only [forL, h1, hb], .inr hk⟩
/-- a for that goes through -/
theorem forL_all {tg : Tg} {body : M Fl} (I : Nat → Sl → Prop) (ds : List D) (e : Sl) (h0 : I 0 e)
    (hs : ∀ (i : Nat) (d : D) (e : Sl), ds[i]? = some d → I i e → ∃ e1 e2, tg.go d e = some e1 ∧ body e1 = some (.ok .next e2) ∧ I (i + 1) e2) : ∃ e', forL tg body ds e = some (.ok .next e') ∧ I ds.length e' := by
  rcases forL_gen I (fun _ _ => False) (fun _ => False) ds e h0 fun i d e hd hi => by
    obtain ⟨e1, e2, h1, h2, h3⟩ := hs i d e hd hi
    exact ⟨e1, h1, .inl ⟨e2, .inl h2, h3⟩⟩ with ⟨e', h1, h2⟩ | ⟨o, e', h1, h2⟩
  · exact ⟨e', h1, h2.elim id False.elim⟩
  · exact h2.elim
/-- a while, by a measure -/
theorem whL_gen {c : M Bool} {body : M Fl} (I : Nat → Sl → Prop) (Z : Sl → Prop) (R : O → Sl → Prop) (hs : ∀ (m : Nat) (e : Sl), I m e → (∃ e1, c e = some (.ok false e1) ∧ Z e1) ∨ (∃ e1, c e = some (.ok true e1) ∧ ((∃ m' e2, m' < m ∧ (body e1 = some (.ok .next e2) ∨ body e1 = some (.ok .cnt e2)) ∧ I m' e2) ∨ (∃ o e2, body e1 = some (.ok (.ret o) e2) ∧ R o e2) ∨ (∃ e2, body e1 = some (.ok .brk e2) ∧ Z e2)))) :
    ∀ (n m : Nat) (e : Sl), m < n → I m e → (∃ e', whL c body n e = some (.ok .next e') ∧ Z e') ∨ (∃ o e', whL c body n e = some (.ok (.ret o) e') ∧ R o e')
  | 0, _, _, h, _ => absurd h (Nat.not_lt_zero _)
  | n + 1, m, e, hn, hi => by
    rcases hs m e hi with ⟨e1, h1, h2⟩ | ⟨e1, h1, h2⟩
    · exact .inl ⟨e1, by simp [whL, M.bind, h1, M.pure], h2⟩
    · rcases h2 with ⟨m', e2, hm, hb, hi'⟩ | ⟨o, e2, hb, hr⟩ | ⟨e2, hb, hz⟩
      · have q : whL c body (n + 1) e = whL c body n e2 := by
          rcases hb with hb | hb <;> simp [whL, M.bind, h1, hb]
        rw [q]
        exact whL_gen I Z R hs n m' e2 (by omega) hi'
      · exact .inr ⟨o, e2, by simp [whL, M.bind, h1, hb], hr⟩
      · exact .inl ⟨e2, by simp [whL, M.bind, h1, hb], hz⟩
/-- a comprehension without a test: P i d x of each item and what is made of it -/
theorem lcL_gen {own : List Nat} {tg : Tg} {t : M Bool} {f : M O} (I : Nat → Sl → Prop) (Pr : Nat → D → D → Prop) : ∀ (ds acc : List D) (e : Sl), acc.length + ds.length < 10000000 → I 0 e →
    (∀ (i : Nat) (d : D) (e : Sl), ds[i]? = some d → I i e → ∃ e1 e2 o e3, tg.go d e = some e1 ∧ t e1 = some (.ok true e2) ∧ f e2 = some (.ok o e3) ∧ Pr i d o.d ∧ I (i + 1) (wipeE e3 own)) →
    ∃ xs e', lcL own tg t f ds acc e = some (acc ++ xs, e') ∧ xs.length = ds.length ∧ (∀ (i : Nat) (d : D), ds[i]? = some d → ∃ x, xs[i]? = some x ∧ Pr i d x) ∧ I ds.length e'
  | [], acc, e, _, h0, _ => ⟨[], e, by simp [lcL], rfl, fun i d h => by simp at h, h0⟩
  | d :: ds, acc, e, hl, h0, hs => by
    obtain ⟨e1, e2, o, e3, h1, h2, h3, h4, h5⟩ := hs 0 d e rfl h0
    have hz : acc.length < sizeLine := by rw [sizeLine_eq]; rw [List.length_cons] at hl; omega
    obtain ⟨xs, e', q1, q2, q3, q4⟩ := lcL_gen (fun i => I (i + 1)) (fun i => Pr (i + 1)) ds (acc ++ [o.d]) (wipeE e3 own) (by rw [List.length_append]; simp only [List.length_cons, List.length_nil] at *; omega) h5 fun i d' e' hd hi => hs (i + 1) d' e' hd hi
    refine ⟨o.d :: xs, e', ?_, by rw [List.length_cons, List.length_cons, q2], fun i d' h => ?_, q4⟩
    · simp only [lcL, h1, h2, h3, hz, if_true, q1, List.append_assoc, List.singleton_append]
    · cases i with
      | zero =>
        have h' : some d = some d' := h
        cases h'
        exact ⟨_, rfl, h4⟩
      | succ i =>
        obtain ⟨x, a, b⟩ := q3 i d' h
        exact ⟨x, a, b⟩
/-- a comprehension whose element is a function of the item, and whose block leaves the slots as they were -/
theorem lcL_map {own : List Nat} {tg : Tg} {t : M Bool} {f : M O} {e : Sl} (h : D → D) (ds : List D) (hl : ds.length < 10000000)
    (hs : ∀ d ∈ ds, ∃ e1 e2 o e3, tg.go d e = some e1 ∧ t e1 = some (.ok true e2) ∧ f e2 = some (.ok o e3) ∧ o.d = h d ∧ wipeE e3 own = e) : lcL own tg t f ds [] e = some (ds.map h, e) := by
  obtain ⟨xs, e', q1, q2, q3, q4⟩ := lcL_gen (own := own) (tg := tg) (t := t) (f := f) (fun _ e' => e' = e) (fun _ d x => x = h d) ds [] e (by simpa using hl) rfl fun i d e' hd he => by
    subst he
    obtain ⟨e1, e2, o, e3, a, b, c, d', f'⟩ := hs d (List.mem_of_getElem? hd)
    exact ⟨e1, e2, o, e3, a, b, c, d', f'⟩
  rw [q1, q4, List.nil_append]
  congr 2
  apply List.ext_getElem?
  intro i
  rw [List.getElem?_map]
  cases hd : ds[i]? with
  | none => rw [List.getElem?_eq_none (by rw [q2]; exact List.getElem?_eq_none_iff.mp hd)]; rfl
  | some d =>
    obtain ⟨x, hx, e⟩ := q3 i d hd
    rw [hx, e]; rfl
theorem rngD_get {lo hi : Int} {i : Nat} {d : D} (h : (rngD lo hi)[i]? = some d) : d = .int (lo + i) ∧ (i : Int) < hi - lo := by
  unfold rngD at h
  have hl := (List.getElem?_eq_some_iff.mp h).1
  rw [List.length_map, List.length_range] at hl
  rw [List.getElem?_map, List.getElem?_range hl] at h
  cases h
  exact ⟨rfl, by omega⟩
theorem rngD_len {lo hi : Int} : (rngD lo hi).length = (hi - lo).toNat := by unfold rngD; rw [List.length_map, List.length_range]
theorem fmod_pos {a b : Int} (h : 0 < b) : a.fmod b = a % b := Int.fmod_eq_emod_of_nonneg a (Int.le_of_lt h)
theorem fdiv_pos {a b : Int} (h : 0 ≤ b) : a.fdiv b = a / b := Int.fdiv_eq_ediv_of_nonneg a h
theorem atI_nat' {α : Type} {xs : List α} {i : Int} (h0 : 0 ≤ i) (h1 : i < xs.length) : atI xs i = xs[i.toNat]? := by
  unfold atI ixN
  rw [if_pos h0, if_pos h1]; rfl
theorem atI_some {α : Type} {xs : List α} {i : Int} (h0 : 0 ≤ i) (h1 : i < xs.length) : ∃ x, atI xs i = some x ∧ x ∈ xs := by
  rw [atI_nat' h0 h1]
  have h2 : i.toNat < xs.length := by omega
  exact ⟨xs[i.toNat], List.getElem?_eq_getElem h2, List.getElem_mem h2⟩
end Dn

/-! ## 23. Every form, at given slots -/
namespace Dn
open PySem L2
section
variable {α β : Type} (e : Sl)
/-- by computing, but told as a step of its own -/
theorem nr {γ : Type} {a b : γ} (h : a = b) : a = b := h
/-- what follows an outcome; kept as an instance, so that simp leaves it alone until it is reached -/
class Kont (α β : Type) where
  run : α → Sl → Option (Ro β)
@[inline] def thn' {α β : Type} (r : Option (Ro α)) [k : Kont α β] : Option (Ro β) := match r with
  | none => none
  | some (.ex x e') => some (.ex x e')
  | some (.ok a e') => k.run a e'
theorem thn_ok {a : α} {e' : Sl} {k : Kont α β} : @thn' _ _ (some (.ok a e')) k = k.run a e' := nr rfl
theorem thn_ex {x : Exn} {e' : Sl} {k : Kont α β} : @thn' _ _ (some (.ex x e')) k = some (.ex x e') := nr rfl
theorem thn_none {k : Kont α β} : @thn' _ _ none k = none := nr rfl
theorem thn_congr {r : Option (Ro α)} {f g : α → Sl → Option (Ro β)} (h : ∀ a e, f a e = g a e) : @thn' _ _ r ⟨f⟩ = @thn' _ _ r ⟨g⟩ := by rw [show f = g from funext fun a => funext fun e => h a e]
theorem bind_a (m : M α) (f : α → M β) : M.bind m f e = @thn' _ _ (m e) ⟨fun a e' => f a e'⟩ := nr rfl
theorem pure_a (a : α) : M.pure a e = some (.ok a e) := nr rfl
theorem stuck_a : (M.stuck : M α) e = none := nr rfl
def getO (e : Sl) (i : Nat) : Option O := match e[i]? with
  | some (some o) => some o
  | _ => none
theorem getO_nil (i : Nat) : getO [] i = none := by simp [getO]
theorem getO_0 (o : O) (es : Sl) : getO (some o :: es) 0 = some o := nr rfl
theorem getO_0n (es : Sl) : getO (none :: es) 0 = none := nr rfl
theorem getO_s (o : Option O) (es : Sl) (i : Nat) : getO (o :: es) (i + 1) = getO es i := by simp [getO]
theorem ops_n : ops [] e = some (.ok [] e) := nr rfl
theorem ops_b (i : Nat) (ps : List P) : ops (.b i :: ps) e = (match getO e i with
    | some _ => @thn' _ _ (ops ps e) ⟨fun ds e' => (match getO e' i with
      | some o => some (.ok (o.d :: ds) e')
      | none => none)⟩
    | none => none) := by
  conv => lhs; unfold ops
  unfold getO M.bind thn'
  cases h : e[i]? with
  | none => rfl
  | some u =>
    cases u with
    | none => rfl
    | some o =>
      dsimp only
      cases ops ps e with
      | none => rfl
      | some r =>
        cases r with
        | ex x e' => rfl
        | ok ds e' =>
          dsimp only
          cases h2 : e'[i]? with
          | none => rfl
          | some u => cases u <;> rfl
theorem ops_v (f : M O) (ps : List P) : ops (.v f :: ps) e = @thn' _ _ (f e) ⟨fun o e1 => @thn' _ _ (ops ps e1) ⟨fun ds e2 => some (.ok (o.d :: ds) e2)⟩⟩ := nr rfl
theorem ap_a (g : List D → Option O) (ps : List P) : ap g ps e = @thn' _ _ (ops ps e) ⟨fun ds e' => (g ds).map fun o => .ok o e'⟩ := nr rfl
theorem eC_a (d : D) : eC d e = some (.ok (.fr d) e) := nr rfl
theorem eVar_a (i : Nat) : eVar i e = (match getO e i with
    | some (.fr d) => some (.ok (.fr d) e)
    | some (.lst ds) => some (.ok (.fr (.lst ds)) (e.set i (some (.fr (.lst ds)))))
    | some (.dct ks ds) => some (.ok (.fr (.dct ks ds)) (e.set i (some (.fr (.dct ks ds)))))
    | some (.ins c ns ds) => some (.ok (.fr (.ins c ns ds)) (e.set i (some (.fr (.ins c ns ds)))))
    | _ => none) := by
  unfold eVar getO
  cases h : e[i]? with
  | none => rfl
  | some u => cases u with
    | none => rfl
    | some o => cases o <;> rfl
theorem eMove_a (i : Nat) : eMove i e = (match getO e i with
    | some (.fr d) => some (.ok (.fr d) e)
    | some o => some (.ok o (e.set i none))
    | none => none) := by
  unfold eMove getO
  cases h : e[i]? with
  | none => rfl
  | some u => cases u with
    | none => rfl
    | some o => cases o <;> rfl
theorem eFz_a (f : M O) : eFz f e = @thn' _ _ (f e) ⟨fun o e' => some (.ok (.fr o.d) e')⟩ := nr rfl
theorem eIf_a (c : M Bool) (f g : M O) : eIf c f g e = @thn' _ _ (c e) ⟨fun b e' => if b = true then f e' else g e'⟩ := by
  show @thn' _ _ (c e) ⟨_⟩ = _
  exact thn_congr fun b _ => by cases b <;> rfl
theorem eAnd_a (f g : M O) : eAnd f g e = @thn' _ _ (f e) ⟨fun o e' => (match o with
    | .fr (.bl true) => g e'
    | .fr (.bl false) => some (.ok (.fr (.bl false)) e')
    | _ => none)⟩ := by
  show @thn' _ _ (f e) ⟨_⟩ = _
  refine thn_congr fun o e' => ?_
  cases o with
  | lst _ => rfl
  | dct _ _ => rfl
  | ins _ _ _ => rfl
  | exn _ _ _ => rfl
  | fr d => cases d with
    | bl b => cases b <;> rfl
    | _ => rfl
theorem eOr_a (f g : M O) : eOr f g e = @thn' _ _ (f e) ⟨fun o e' => (match o with
    | .fr (.bl false) => g e'
    | .fr (.bl true) => some (.ok (.fr (.bl true)) e')
    | _ => none)⟩ := by
  show @thn' _ _ (f e) ⟨_⟩ = _
  refine thn_congr fun o e' => ?_
  cases o with
  | lst _ => rfl
  | dct _ _ => rfl
  | ins _ _ _ => rfl
  | exn _ _ _ => rfl
  | fr d => cases d with
    | bl b => cases b <;> rfl
    | _ => rfl
theorem eNot_a (f : M O) : eNot f e = @thn' _ _ (f e) ⟨fun o e' => (match o with
    | .fr (.bl b) => some (.ok (.fr (.bl (!b))) e')
    | _ => none)⟩ := by
  show @thn' _ _ (f e) ⟨_⟩ = _
  refine thn_congr fun o e' => ?_
  cases o with
  | lst _ => rfl
  | dct _ _ => rfl
  | ins _ _ _ => rfl
  | exn _ _ _ => rfl
  | fr d => cases d <;> rfl
theorem tst_a (f : M O) : tst f e = @thn' _ _ (f e) ⟨fun o e' => (match o with
    | .fr (.bl b) => some (.ok b e')
    | _ => none)⟩ := by
  show @thn' _ _ (f e) ⟨_⟩ = _
  refine thn_congr fun o e' => ?_
  cases o with
  | lst _ => rfl
  | dct _ _ => rfl
  | ins _ _ _ => rfl
  | exn _ _ _ => rfl
  | fr d => cases d <;> rfl
theorem cAnd_a (c d : M Bool) : cAnd c d e = @thn' _ _ (c e) ⟨fun b e' => if b = true then d e' else some (.ok false e')⟩ := by
  show @thn' _ _ (c e) ⟨_⟩ = _
  exact thn_congr fun b _ => by cases b <;> rfl
theorem cOr_a (c d : M Bool) : cOr c d e = @thn' _ _ (c e) ⟨fun b e' => if b = true then some (.ok true e') else d e'⟩ := by
  show @thn' _ _ (c e) ⟨_⟩ = _
  exact thn_congr fun b _ => by cases b <;> rfl
theorem cNot_a (c : M Bool) : cNot c e = @thn' _ _ (c e) ⟨fun b e' => some (.ok (!b) e')⟩ := nr rfl
theorem items_n : items [] e = some (.ok [] e) := nr rfl
theorem items_c (f : M O) (fs : List (M O)) : items (f :: fs) e = @thn' _ _ (f e) ⟨fun o e1 => @thn' _ _ (items fs e1) ⟨fun ds e2 => some (.ok (o.d :: ds) e2)⟩⟩ := nr rfl
theorem eTup_a (fs : List (M O)) : eTup fs e = @thn' _ _ (items fs e) ⟨fun ds e' => some (.ok (.fr (.tup ds)) e')⟩ := nr rfl
theorem eLst_a (fs : List (M O)) : eLst fs e = @thn' _ _ (items fs e) ⟨fun ds e' => some (.ok (.lst ds) e')⟩ := nr rfl
theorem sNext_a : sNext e = some (.ok .next e) := nr rfl
theorem sBrk_a : sBrk e = some (.ok .brk e) := nr rfl
theorem sCnt_a : sCnt e = some (.ok .cnt e) := nr rfl
theorem sSeq_a (a b : M Fl) : sSeq a b e = @thn' _ _ (a e) ⟨fun f e' => (match f with
    | .next => b e'
    | .ret o => some (.ok (.ret o) e')
    | .brk => some (.ok .brk e')
    | .cnt => some (.ok .cnt e'))⟩ := by
  show @thn' _ _ (a e) ⟨_⟩ = _
  exact thn_congr fun f _ => by cases f <;> rfl
theorem sIf_a (c : M Bool) (a b : M Fl) : sIf c a b e = @thn' _ _ (c e) ⟨fun t e' => if t = true then a e' else b e'⟩ := by
  show @thn' _ _ (c e) ⟨_⟩ = _
  exact thn_congr fun b _ => by cases b <;> rfl
theorem sRet_a (f : M O) : sRet f e = @thn' _ _ (f e) ⟨fun o e' => some (.ok (.ret o) e')⟩ := nr rfl
theorem sDrop_a (f : M O) : sDrop f e = @thn' _ _ (f e) ⟨fun _ e' => some (.ok .next e')⟩ := nr rfl
theorem sSet_a (i : Nat) (f : M O) : sSet i f e = @thn' _ _ (f e) ⟨fun o e' => some (.ok .next (e'.set i (some o)))⟩ := nr rfl
theorem sFor_a (src : M (List D)) (tg : Tg) (b : M Fl) : sFor src tg b e = @thn' _ _ (src e) ⟨fun ds e' => forL tg b ds e'⟩ := nr rfl
theorem eCall_a (F : Fn) (ps : List P) (dv : List D) : eCall F ps dv e = @thn' _ _ (cops ps e) ⟨fun os e' => (match F (os ++ dv.map .fr) with
    | none => none
    | some (.ok o os') => some (.ok o (wb ps os' e'))
    | some (.ex x os') => some (.ex x (wb ps os' e')))⟩ := nr rfl
theorem cops_n : cops [] e = some (.ok [] e) := nr rfl
theorem cops_b (i : Nat) (ps : List P) : cops (.b i :: ps) e = (match getO e i with
    | some _ => @thn' _ _ (cops ps e) ⟨fun ds e' => (match getO e' i with
      | some o => some (.ok (o :: ds) e')
      | none => none)⟩
    | none => none) := by
  conv => lhs; unfold cops
  unfold getO M.bind thn'
  cases h : e[i]? with
  | none => rfl
  | some u =>
    cases u with
    | none => rfl
    | some o =>
      dsimp only
      cases cops ps e with
      | none => rfl
      | some r =>
        cases r with
        | ex x e' => rfl
        | ok ds e' =>
          dsimp only
          cases h2 : e'[i]? with
          | none => rfl
          | some u => cases u <;> rfl
theorem cops_v (f : M O) (ps : List P) : cops (.v f :: ps) e = @thn' _ _ (f e) ⟨fun o e1 => @thn' _ _ (cops ps e1) ⟨fun ds e2 => some (.ok (.fr o.d :: ds) e2)⟩⟩ := nr rfl
theorem sSeqD_a (f : M O) : sSeqD f e = @thn' _ _ (f e) ⟨fun o e' => (seqD o.d).map fun ds => .ok ds e'⟩ := nr rfl
theorem sRng1_a (p : P) : sRng1 p e = @thn' _ _ (ops [p] e) ⟨fun ds e' => (match ds with
    | [.int j] => if inR j = true then some (.ok (rngD 0 j) e') else none
    | _ => none)⟩ := nr rfl
theorem sRng2_a (p q : P) : sRng2 p q e = @thn' _ _ (ops [p, q] e) ⟨fun ds e' => (match ds with
    | [.int i, .int j] => if (inR i && inR j) = true then some (.ok (rngD i j) e') else none
    | _ => none)⟩ := nr rfl
theorem sEnum_a (p : P) : sEnum p e = @thn' _ _ (ops [p] e) ⟨fun ds e' => (match ds with
    | [.lst xs] => some (.ok (enumD 0 xs) e')
    | _ => none)⟩ := nr rfl
theorem eComp_a (own : List Nat) (src : M (List D)) (tg : Tg) (t : M Bool) (f : M O) : eComp own src tg t f e = @thn' _ _ (src e) ⟨fun ds e' => (match lcL own tg t f ds [] (wipeE e' own) with
    | some (acc, e2) => some (.ok (.lst acc) (restE e' e2 own))
    | none => none)⟩ := nr rfl
theorem eMut1_a (g : List D → D → Option (D × List D)) (i : Nat) (f : M O) : eMut1 g i f e = (match getO e i with
    | some (.lst _) => @thn' _ _ (f e) ⟨fun o e' => (match getO e' i with
      | some (.lst ds) => (match g ds o.d with
        | some (r, ds') => some (.ok (.fr r) (e'.set i (some (.lst ds'))))
        | none => none)
      | _ => none)⟩
    | _ => none) := by
  unfold eMut1 getO M.bind thn'
  cases h : e[i]? with
  | none => rfl
  | some u =>
    cases u with
    | none => rfl
    | some o =>
      cases o with
      | fr d => rfl
      | dct _ _ => rfl
      | ins _ _ _ => rfl
      | exn _ _ _ => rfl
      | lst ds =>
        dsimp only
        cases f e with
        | none => rfl
        | some r =>
          cases r with
          | ex x e' => rfl
          | ok ds e' =>
            dsimp only
            cases h2 : e'[i]? with
            | none => rfl
            | some u => cases u with
              | none => rfl
              | some o => cases o <;> rfl
theorem eMut0_a (g : List D → Option (D × List D)) (i : Nat) : eMut0 g i e = (match getO e i with
    | some (.lst ds) => (match g ds with
      | some (r, ds') => some (.ok (.fr r) (e.set i (some (.lst ds'))))
      | none => none)
    | _ => none) := by
  unfold eMut0 getO
  cases h : e[i]? with
  | none => rfl
  | some u =>
    cases u with
    | none => rfl
    | some o => cases o <;> rfl
theorem sSetIx_a (i : Nat) (fk fv : M O) : sSetIx i fk fv e = @thn' _ _ (fv e) ⟨fun o e1 => (match getO e1 i with
    | some (.lst _) => @thn' _ _ (fk e1) ⟨fun k e2 => (match getO e2 i with
      | some (.lst ds) => (match k with
        | .fr (.int j) => (match ixN ds.length j with
          | some n => some (.ok .next (e2.set i (some (.lst (ds.set n o.d)))))
          | none => none)
        | _ => none)
      | _ => none)⟩
    | _ => none)⟩ := by
  show @thn' _ _ (fv e) ⟨_⟩ = _
  refine thn_congr fun o e1 => ?_
  unfold getO M.bind thn'
  cases h : e1[i]? with
  | none => rfl
  | some u =>
    cases u with
    | none => rfl
    | some o =>
      cases o with
      | fr d => rfl
      | dct _ _ => rfl
      | ins _ _ _ => rfl
      | exn _ _ _ => rfl
      | lst ds =>
        dsimp only
        cases fk e1 with
        | none => rfl
        | some r =>
          cases r with
          | ex x e' => rfl
          | ok k e2 =>
            dsimp only
            cases h2 : e2[i]? with
            | none => rfl
            | some u => cases u with
              | none => rfl
              | some o => cases o <;> rfl
theorem eChain_a (g g2 : List D → Option O) (fa fb fc : M O) : eChain g g2 fa fb fc e = @thn' _ _ (fa e) ⟨fun oa e1 => @thn' _ _ (fb e1) ⟨fun ob e2 => (match g [oa.d, ob.d] with
    | some (.fr (.bl true)) => @thn' _ _ (fc e2) ⟨fun oc e3 => (g2 [ob.d, oc.d]).map fun o => .ok o e3⟩
    | some (.fr (.bl false)) => some (.ok (bO false) e2)
    | _ => none)⟩⟩ := nr rfl
theorem tru_a (p : P) : tru p e = @thn' _ _ (ops [p] e) ⟨fun ds e' => (match ds with
    | [d] => (truD d).map fun b => .ok b e'
    | _ => none)⟩ := nr rfl
theorem sAug_a (g : List D → Option O) (i : Nat) (f : M O) : sAug g i f e = (match getO e i with
    | some (.fr a) => @thn' _ _ (f e) ⟨fun o e' => (match g [a, o.d] with
      | some (.fr r) => some (.ok .next (e'.set i (some (.fr r))))
      | _ => none)⟩
    | _ => none) := by
  unfold sAug getO
  cases h : e[i]? with
  | none => rfl
  | some u =>
    cases u with
    | none => rfl
    | some o =>
      cases o with
      | lst _ => rfl
      | dct _ _ => rfl
      | ins _ _ _ => rfl
      | exn _ _ _ => rfl
      | fr a => rfl
theorem sSetT_a (tg : Tg) (f : M O) : sSetT tg f e = @thn' _ _ (f e) ⟨fun o e' => (tg.go o.d e').map fun e2 => .ok .next e2⟩ := nr rfl
theorem apM_b (chk : D → Bool) (g : List D → Option O) (i : Nat) (ps : List P) : apM chk g (.b i) ps e = (match getO e i with
    | some o => if chk o.d = true then ap g (.b i :: ps) e else none
    | none => none) := by
  unfold apM getO
  dsimp only
  cases h : e[i]? with
  | none => rfl
  | some u => cases u <;> rfl
theorem apM_v (chk : D → Bool) (g : List D → Option O) (f : M O) (ps : List P) : apM chk g (.v f) ps e = @thn' _ _ (f e) ⟨fun o e1 => if chk o.d = true then (@thn' _ _ (ops ps e1) ⟨fun ds e' => (g (o.d :: ds)).map fun r => .ok r e'⟩) else none⟩ := by
  unfold apM
  show @thn' _ _ (f e) ⟨_⟩ = _
  refine thn_congr fun o e1 => ?_
  cases chk o.d <;> rfl
theorem eI_a (f : M O) : eI f e = @thn' _ _ (f e) ⟨fun o e' => (match o with
    | .fr (.int i) => some (.ok (.fr (.int i)) e')
    | _ => none)⟩ := by
  show @thn' _ _ (f e) ⟨_⟩ = _
  refine thn_congr fun o e' => ?_
  cases o with
  | lst _ => rfl
  | dct _ _ => rfl
  | ins _ _ _ => rfl
  | exn _ _ _ => rfl
  | fr d => cases d <;> rfl
theorem mkF_a (m : Nat) (ks : List Nat) (g : M Fl) (os : List O) : mkF m ks g os = (match g (os.map some ++ List.replicate (m - os.length) none) with
    | some (.ok (.ret o) e') => (finO ks 0 os e').map (RF.ok o)
    | some (.ok .next e') => (finO ks 0 os e').map (RF.ok (.fr .non))
    | some (.ex x e') => (finO ks 0 os e').map (RF.ex x)
    | _ => none) := by
  unfold mkF
  cases g (os.map some ++ List.replicate (m - os.length) none) with
  | none => rfl
  | some r => cases r with
    | ex x e' => rfl
    | ok fl e' => cases fl <;> rfl
theorem finO_n (ks : List Nat) (k : Nat) : finO ks k [] e = some [] := nr rfl
theorem finO_c (ks : List Nat) (k : Nat) (o : O) (os : List O) : finO ks k (o :: os) e = (match (if k ∈ ks then getO e k else (match o with | .fr d => some (.fr d) | _ => none)) with
    | some o' => (finO ks (k + 1) os e).map (o' :: ·)
    | none => none) := by
  conv => lhs; unfold finO
  unfold getO
  by_cases h : k ∈ ks
  · simp only [if_pos h] <;> (rcases e[k]? with _ | (_ | _) <;> rfl)
  · simp only [if_neg h] <;> cases o <;> rfl
end
end Dn

namespace Dn
open PySem L2
theorem isi_int_non  : isi "int" .non = some false := (by decide +kernel : kitB "NoneType" "int" = some false)
theorem isi_int_bl (x : Bool) : isi "int" (.bl x) = some true := (by decide +kernel : kitB "bool" "int" = some true)
theorem isi_int_int (x : Int) : isi "int" (.int x) = some true := (by decide +kernel : kitB "int" "int" = some true)
theorem isi_int_str (x : Str) : isi "int" (.str x) = some false := (by decide +kernel : kitB "str" "int" = some false)
theorem isi_int_lst (x : List D) : isi "int" (.lst x) = some false := (by decide +kernel : kitB "list" "int" = some false)
theorem isi_int_scr (x : List Int) : isi "int" (.scr x) = some false := (by decide +kernel : kitB "list" "int" = some false)
theorem isi_int_tup (x : List D) : isi "int" (.tup x) = some false := (by decide +kernel : kitB "tuple" "int" = some false)
theorem isi_bool_non  : isi "bool" .non = some false := (by decide +kernel : kitB "NoneType" "bool" = some false)
theorem isi_bool_bl (x : Bool) : isi "bool" (.bl x) = some true := (by decide +kernel : kitB "bool" "bool" = some true)
theorem isi_bool_int (x : Int) : isi "bool" (.int x) = some false := (by decide +kernel : kitB "int" "bool" = some false)
theorem isi_bool_str (x : Str) : isi "bool" (.str x) = some false := (by decide +kernel : kitB "str" "bool" = some false)
theorem isi_bool_lst (x : List D) : isi "bool" (.lst x) = some false := (by decide +kernel : kitB "list" "bool" = some false)
theorem isi_bool_scr (x : List Int) : isi "bool" (.scr x) = some false := (by decide +kernel : kitB "list" "bool" = some false)
theorem isi_bool_tup (x : List D) : isi "bool" (.tup x) = some false := (by decide +kernel : kitB "tuple" "bool" = some false)
theorem isi_str_non  : isi "str" .non = some false := (by decide +kernel : kitB "NoneType" "str" = some false)
theorem isi_str_bl (x : Bool) : isi "str" (.bl x) = some false := (by decide +kernel : kitB "bool" "str" = some false)
theorem isi_str_int (x : Int) : isi "str" (.int x) = some false := (by decide +kernel : kitB "int" "str" = some false)
theorem isi_str_str (x : Str) : isi "str" (.str x) = some true := (by decide +kernel : kitB "str" "str" = some true)
theorem isi_str_lst (x : List D) : isi "str" (.lst x) = some false := (by decide +kernel : kitB "list" "str" = some false)
theorem isi_str_scr (x : List Int) : isi "str" (.scr x) = some false := (by decide +kernel : kitB "list" "str" = some false)
theorem isi_str_tup (x : List D) : isi "str" (.tup x) = some false := (by decide +kernel : kitB "tuple" "str" = some false)
theorem isi_list_non  : isi "list" .non = some false := (by decide +kernel : kitB "NoneType" "list" = some false)
theorem isi_list_bl (x : Bool) : isi "list" (.bl x) = some false := (by decide +kernel : kitB "bool" "list" = some false)
theorem isi_list_int (x : Int) : isi "list" (.int x) = some false := (by decide +kernel : kitB "int" "list" = some false)
theorem isi_list_str (x : Str) : isi "list" (.str x) = some false := (by decide +kernel : kitB "str" "list" = some false)
theorem isi_list_lst (x : List D) : isi "list" (.lst x) = some true := (by decide +kernel : kitB "list" "list" = some true)
theorem isi_list_scr (x : List Int) : isi "list" (.scr x) = some true := (by decide +kernel : kitB "list" "list" = some true)
theorem isi_list_tup (x : List D) : isi "list" (.tup x) = some false := (by decide +kernel : kitB "tuple" "list" = some false)
theorem isi_tuple_non  : isi "tuple" .non = some false := (by decide +kernel : kitB "NoneType" "tuple" = some false)
theorem isi_tuple_bl (x : Bool) : isi "tuple" (.bl x) = some false := (by decide +kernel : kitB "bool" "tuple" = some false)
theorem isi_tuple_int (x : Int) : isi "tuple" (.int x) = some false := (by decide +kernel : kitB "int" "tuple" = some false)
theorem isi_tuple_str (x : Str) : isi "tuple" (.str x) = some false := (by decide +kernel : kitB "str" "tuple" = some false)
theorem isi_tuple_lst (x : List D) : isi "tuple" (.lst x) = some false := (by decide +kernel : kitB "list" "tuple" = some false)
theorem isi_tuple_scr (x : List Int) : isi "tuple" (.scr x) = some false := (by decide +kernel : kitB "list" "tuple" = some false)
theorem isi_tuple_tup (x : List D) : isi "tuple" (.tup x) = some true := (by decide +kernel : kitB "tuple" "tuple" = some true)
end Dn

namespace Dn
open PySem L2

/-! ## 24. What holds of an outcome -/
class PostE (α : Type) where
  run : α → Sl → Prop
def EvC {α : Type} (r : Option (Ro α)) [Q : PostE α] [X : PostE Exn] : Prop := match r with
  | some (.ok a e) => Q.run a e
  | some (.ex x e) => X.run x e
  | none => False
def Ev {α : Type} (r : Option (Ro α)) (Q : α → Sl → Prop) (X : Exn → Sl → Prop) : Prop := @EvC _ r ⟨Q⟩ ⟨X⟩
class PostF (α : Type) where
  run : α → List O → Prop
def FEvC (r : Option RF) [Q : PostF O] [X : PostF Exn] : Prop := match r with
  | some (.ok o os) => Q.run o os
  | some (.ex x os) => X.run x os
  | none => False
def FEv (r : Option RF) (Q : O → List O → Prop) (X : Exn → List O → Prop) : Prop := @FEvC r ⟨Q⟩ ⟨X⟩
section
variable {α β : Type}
theorem Ev_d {r : Option (Ro α)} {Q : α → Sl → Prop} {X : Exn → Sl → Prop} : Ev r Q X = @EvC _ r ⟨Q⟩ ⟨X⟩ := nr rfl
theorem FEv_d {r : Option RF} {Q : O → List O → Prop} {X : Exn → List O → Prop} : FEv r Q X = @FEvC r ⟨Q⟩ ⟨X⟩ := nr rfl
theorem Ev_ok {a : α} {e : Sl} {Q : PostE α} {X : PostE Exn} : @EvC _ (some (.ok a e)) Q X = Q.run a e := nr rfl
theorem Ev_ex {x : Exn} {e : Sl} {Q : PostE α} {X : PostE Exn} : @EvC _ (some (.ex x e)) Q X = X.run x e := nr rfl
theorem Ev_none {Q : PostE α} {X : PostE Exn} : @EvC _ none Q X = False := nr rfl
theorem FEv_ok {a : O} {e : List O} {Q : PostF O} {X : PostF Exn} : @FEvC (some (.ok a e)) Q X = Q.run a e := nr rfl
theorem FEv_ex {x : Exn} {e : List O} {Q : PostF O} {X : PostF Exn} : @FEvC (some (.ex x e)) Q X = X.run x e := nr rfl
theorem FEv_none {Q : PostF O} {X : PostF Exn} : @FEvC none Q X = False := nr rfl
theorem Ev_thn {r : Option (Ro α)} {k : Kont α β} {Q : PostE β} {X : PostE Exn} : @EvC _ (@thn' _ _ r k) Q X = @EvC _ r ⟨fun a e => @EvC _ (k.run a e) Q X⟩ X := by
  cases r with
  | none => rfl
  | some r => cases r <;> rfl
theorem Ev.mono {r : Option (Ro α)} {Q Q' : α → Sl → Prop} {X X' : Exn → Sl → Prop} (h : Ev r Q X) (hq : ∀ a e, Q a e → Q' a e) (hx : ∀ x e, X x e → X' x e) : Ev r Q' X' := by
  unfold Ev EvC at *
  cases r with
  | none => exact h
  | some r => cases r with
    | ok a e => exact hq _ _ h
    | ex x e => exact hx _ _ h
theorem FEv.mono {r : Option RF} {Q Q' : O → List O → Prop} {X X' : Exn → List O → Prop} (h : FEv r Q X) (hq : ∀ a e, Q a e → Q' a e) (hx : ∀ x e, X x e → X' x e) : FEv r Q' X' := by
  unfold FEv FEvC at *
  cases r with
  | none => exact h
  | some r => cases r with
    | ok a e => exact hq _ _ h
    | ex x e => exact hx _ _ h
theorem Ev.get {r : Option (Ro α)} {Q : α → Sl → Prop} (h : Ev r Q fun _ _ => False) : ∃ a e, r = some (.ok a e) ∧ Q a e := by
  unfold Ev EvC at h
  split at h
  · exact ⟨_, _, rfl, h⟩
  · exact h.elim
  · exact h.elim
theorem FEv.get {r : Option RF} {Q : O → List O → Prop} (h : FEv r Q fun _ _ => False) : ∃ a e, r = some (.ok a e) ∧ Q a e := by
  unfold FEv FEvC at h
  split at h
  · exact ⟨_, _, rfl, h⟩
  · exact h.elim
  · exact h.elim
theorem FEv.of {r : Option RF} {o : O} {os : List O} {Q : O → List O → Prop} {X : Exn → List O → Prop} (h : r = some (.ok o os)) (q : Q o os) : FEv r Q X := by rw [h]; exact q
/-- what a def hands back, of what its body does -/
def finR (ks : List Nat) (os : List O) (r : Option (Ro Fl)) : Option RF := match r with
  | some (.ok (.ret o) e') => (finO ks 0 os e').map (RF.ok o)
  | some (.ok .next e') => (finO ks 0 os e').map (RF.ok (.fr .non))
  | some (.ex x e') => (finO ks 0 os e').map (RF.ex x)
  | _ => none
theorem mkF_e (m : Nat) (ks : List Nat) (g : M Fl) (os : List O) : mkF m ks g os = finR ks os (g (os.map some ++ List.replicate (m - os.length) none)) := mkF_a m ks g os
theorem finR_ret {ks : List Nat} {os : List O} {o : O} {e : Sl} : finR ks os (some (.ok (.ret o) e)) = (finO ks 0 os e).map (RF.ok o) := nr rfl
theorem finR_next {ks : List Nat} {os : List O} {e : Sl} : finR ks os (some (.ok .next e)) = (finO ks 0 os e).map (RF.ok (.fr .non)) := nr rfl
theorem finR_ex {ks : List Nat} {os : List O} {x : Exn} {e : Sl} : finR ks os (some (.ex x e)) = (finO ks 0 os e).map (RF.ex x) := nr rfl
theorem FEv_fin {ks : List Nat} {os : List O} {r : Option (Ro Fl)} {Q : PostF O} {X : PostF Exn} : @FEvC (finR ks os r) Q X = @EvC _ r ⟨fun fl e => match fl with
    | .ret o => @FEvC ((finO ks 0 os e).map (RF.ok o)) Q X
    | .next => @FEvC ((finO ks 0 os e).map (RF.ok (.fr .non))) Q X
    | _ => False⟩ ⟨fun x e => @FEvC ((finO ks 0 os e).map (RF.ex x)) Q X⟩ := by
  unfold finR EvC
  cases r with
  | none => rfl
  | some r => cases r with
    | ex x e => rfl
    | ok fl e => cases fl <;> rfl
/-- what a loop may do in one turn -/
def TurnOk (R : M Fl) (e : Sl) (I : Sl → Prop) (Rt : O → Sl → Prop) (Bk : Sl → Prop) (X : Exn → Sl → Prop) : Prop := Ev (R e) (fun fl e2 => match fl with
  | .next => I e2
  | .cnt => I e2
  | .brk => Bk e2
  | .ret o => Rt o e2) X
theorem Ev_forL {tg : Tg} {body : M Fl} {X : Exn → Sl → Prop} (I : Nat → Sl → Prop) (Q : Fl → Sl → Prop) : ∀ (ds : List D) (e : Sl), I 0 e →
    (∀ (i : Nat) (d : D) (e : Sl), ds[i]? = some d → I i e → ∃ e1, tg.go d e = some e1 ∧ Ev (body e1) (fun fl e2 => match fl with
      | .next => I (i + 1) e2
      | .cnt => I (i + 1) e2
      | .brk => Q .next e2
      | .ret o => Q (.ret o) e2) X) → (∀ e, I ds.length e → Q .next e) →
    Ev (forL tg body ds e) Q X
  | [], e, h0, _, hq => hq e h0
  | d :: ds, e, h0, hs, hq => by
    obtain ⟨e1, h1, h2⟩ := hs 0 d e rfl h0
    unfold Ev EvC at h2
    unfold forL
    rw [h1]
    dsimp only
    cases h3 : body e1 with
    | none => rw [h3] at h2; exact h2.elim
    | some r =>
      rw [h3] at h2
      cases r with
      | ex x e2 => exact h2
      | ok fl e2 =>
        cases fl with
        | next => exact Ev_forL (fun i => I (i + 1)) Q ds e2 h2 (fun i d e hd hi => hs (i + 1) d e hd hi) hq
        | cnt => exact Ev_forL (fun i => I (i + 1)) Q ds e2 h2 (fun i d e hd hi => hs (i + 1) d e hd hi) hq
        | brk => exact h2
        | ret o => exact h2
theorem Ev_whL {c : M Bool} {body : M Fl} {X : Exn → Sl → Prop} (I : Nat → Sl → Prop) (Q : Fl → Sl → Prop) (hs : ∀ (m : Nat) (e : Sl), I m e → Ev (c e) (fun b e1 => if b = true then Ev (body e1) (fun fl e2 => match fl with
      | .next => ∃ m', m' < m ∧ I m' e2
      | .cnt => ∃ m', m' < m ∧ I m' e2
      | .brk => Q .next e2
      | .ret o => Q (.ret o) e2) X else Q .next e1) X) : ∀ (n m : Nat) (e : Sl), m < n → I m e → Ev (whL c body n e) Q X
  | 0, _, _, h, _ => absurd h (Nat.not_lt_zero _)
  | n + 1, m, e, hn, hi => by
    have h := hs m e hi
    unfold whL M.bind
    unfold Ev EvC at h
    cases h1 : c e with
    | none => rw [h1] at h; exact h.elim
    | some r =>
      rw [h1] at h
      cases r with
      | ex x e1 => exact h
      | ok b e1 =>
        dsimp only at h ⊢
        cases b with
        | false => exact h
        | true =>
          rw [if_pos rfl] at h
          rw [if_pos rfl]
          cases h2 : body e1 with
          | none => rw [h2] at h; exact h.elim
          | some r =>
            rw [h2] at h
            cases r with
            | ex x e2 => exact h
            | ok fl e2 =>
              cases fl with
              | next => obtain ⟨m', hm, hi'⟩ := h; exact Ev_whL I Q hs n m' e2 (by omega) hi'
              | cnt => obtain ⟨m', hm, hi'⟩ := h; exact Ev_whL I Q hs n m' e2 (by omega) hi'
              | brk => exact h
              | ret o => exact h
/-- what is left of a call -/
def callR (ps : List P) (e : Sl) (r : Option RF) : Option (Ro O) := match r with
  | none => none
  | some (.ok o os') => some (.ok o (wb ps os' e))
  | some (.ex x os') => some (.ex x (wb ps os' e))
theorem callR_ok {ps : List P} {e : Sl} {o : O} {os : List O} : callR ps e (some (.ok o os)) = some (.ok o (wb ps os e)) := nr rfl
theorem callR_ex {ps : List P} {e : Sl} {x : Exn} {os : List O} : callR ps e (some (.ex x os)) = some (.ex x (wb ps os e)) := nr rfl
theorem eCall_e (F : Fn) (ps : List P) (dv : List D) (e : Sl) : eCall F ps dv e = @thn' _ _ (cops ps e) ⟨fun os e' => callR ps e' (F (os ++ dv.map .fr))⟩ := eCall_a e F ps dv
theorem Ev_callR {ps : List P} {e : Sl} {r : Option RF} {Q : PostE O} {X : PostE Exn} : @EvC _ (callR ps e r) Q X = @FEvC r ⟨fun o os' => Q.run o (wb ps os' e)⟩ ⟨fun x os' => X.run x (wb ps os' e)⟩ := by
  cases r with
  | none => rfl
  | some r => cases r <;> rfl
/-- what is left of a comprehension -/
def lcR (own : List Nat) (e : Sl) (r : Option (List D × Sl)) : Option (Ro O) := match r with
  | some (acc, e2) => some (.ok (.lst acc) (restE e e2 own))
  | none => none
theorem lcR_ok {own : List Nat} {e : Sl} {acc : List D} {e2 : Sl} : lcR own e (some (acc, e2)) = some (.ok (.lst acc) (restE e e2 own)) := nr rfl
theorem eComp_e (own : List Nat) (src : M (List D)) (tg : Tg) (t : M Bool) (f : M O) (e : Sl) : eComp own src tg t f e = @thn' _ _ (src e) ⟨fun ds e' => lcR own e' (lcL own tg t f ds [] (wipeE e' own))⟩ := nr rfl
theorem Ev_lcR {own : List Nat} {e : Sl} {r : Option (List D × Sl)} {Q : PostE O} {X : PostE Exn} : @EvC _ (lcR own e r) Q X = ∃ acc e2, r = some (acc, e2) ∧ Q.run (.lst acc) (restE e e2 own) := by
  cases r with
  | none => exact propext ⟨fun h => h.elim, fun ⟨_, _, h, _⟩ => by cases h⟩
  | some r => exact propext ⟨fun h => ⟨_, _, rfl, h⟩, fun ⟨_, _, h, q⟩ => by cases h; exact q⟩
end
theorem wipeE_n (e : Sl) : wipeE e [] = e := nr rfl
theorem wipeE_c (e : Sl) (v : Nat) (vs : List Nat) : wipeE e (v :: vs) = (wipeE e vs).set v none := nr rfl
theorem restE_n (e0 e : Sl) : restE e0 e [] = e := nr rfl
theorem restE_c (e0 e : Sl) (v : Nat) (vs : List Nat) : restE e0 e (v :: vs) = (match getO e0 v with
    | some (.fr d) => (restE e0 e vs).set v (some (.fr d))
    | _ => restE e0 e vs) := by
  conv => lhs; unfold restE
  unfold getO
  cases e0[v]? with
  | none => rfl
  | some u => cases u with
    | none => rfl
    | some o => cases o <;> rfl
theorem mul_small {i j : Int} (h : -(2 ^ 64) < i ∧ i < 2 ^ 64) : mulOk i j = true := by
  unfold mulOk
  rw [decide_eq_true h]; rfl
theorem mul_small' {i j : Int} (h : -(2 ^ 64) < j ∧ j < 2 ^ 64) : mulOk i j = true := by
  unfold mulOk
  rw [decide_eq_true h, Bool.or_true]
theorem mod_ge {a b : Int} (h : 0 < b) : 0 ≤ a % b := Int.emod_nonneg a (by omega)
theorem mod_lt {a b : Int} (h : 0 < b) : a % b < b := Int.emod_lt_of_pos a h
theorem inR_pos {i : Int} (h0 : 0 ≤ i) (h1 : i ≤ 1000000) : inR i = true := by unfold inR; exact decide_eq_true ⟨by omega, by omega⟩
theorem rngD_mem {lo hi : Int} {d : D} (h : d ∈ rngD lo hi) : ∃ i : Int, d = .int i ∧ lo ≤ i ∧ i < hi := by
  obtain ⟨k, hk⟩ := List.getElem?_of_mem h
  obtain ⟨h1, h2⟩ := rngD_get hk
  exact ⟨_, h1, by omega, by omega⟩
end Dn

namespace Dn
open PySem L2

/-! ## 25. Texts by their signs -/
abbrev zl (z : Str) : List Nat := z.cps.toList
abbrev one (c : Nat) : Str := ⟨#[c]⟩
theorem len_zl (z : Str) : z.length = (zl z).length := rfl
theorem zl_inj {a b : Str} (h : zl a = zl b) : a = b := by
  have hc : a.cps = b.cps := Array.toList_inj.mp h
  cases a; cases b
  simp only [Str.mk.injEq]; exact hc
theorem zl_app (a b : Str) : zl (a ++ b) = zl a ++ zl b := by
  show (a.cps ++ b.cps).toList = _
  exact Array.toList_append
theorem zl_one (c : Nat) : zl (one c) = [c] := rfl
theorem zl_e : zl (PySem.Str.ofString "") = [] := by decide +kernel
theorem zl_join0 : ∀ l : List Str, zl (Txt.join (PySem.Str.ofString "") l) = l.flatMap zl
  | [] => by rw [TL.join_eq]; rfl
  | [x] => by
    rw [TL.join_eq]
    show zl x = [x].flatMap zl
    rw [List.flatMap_cons, List.flatMap_nil, List.append_nil]
  | x :: y :: r => by
    have ih := zl_join0 (y :: r)
    rw [TL.join_eq] at ih ⊢
    show zl (x ++ PySem.Str.ofString "" ++ Str.join _ (y :: r)) = _
    rw [zl_app, zl_app, zl_e, List.append_nil, ih, List.flatMap_cons, List.flatMap_cons, List.flatMap_cons]
theorem zl_ones (cs : List Nat) : zl (Txt.join (PySem.Str.ofString "") (cs.map one)) = cs := by
  rw [zl_join0]
  induction cs with
  | nil => rfl
  | cons c cs ih => rw [List.map_cons, List.flatMap_cons, ih]; rfl
theorem sum_ones (cs : List Nat) : ((cs.map one).map (·.length)).sum = cs.length := by
  induction cs with
  | nil => rfl
  | cons c cs ih => rw [List.map_cons, List.map_cons, List.sum_cons, ih, List.length_cons]; show 1 + _ = _; omega
/-- the signs, one by one, set together -/
theorem gJoin_ones {cs : List Nat} (h : cs.length ≤ 10000000) : gJoin [.str (PySem.Str.ofString ""), .lst (cs.map fun c => .str (one c))] = some (sO ⟨cs.toArray⟩) := by
  have e : (cs.map fun c => D.str (one c)) = (cs.map one).map D.str := by rw [List.map_map]; rfl
  have z : (PySem.Str.ofString "").length = 0 := by decide +kernel
  rw [e]
  show (strsD ((cs.map one).map D.str)).bind _ = _
  rw [strsD_str]
  show (if ((cs.map one).map (·.length)).sum + (cs.map one).length * (PySem.Str.ofString "").length ≤ 16777216 then _ else _) = _
  rw [sum_ones, z, if_pos (by omega)]
  congr 3
  exact zl_inj (zl_ones cs)
theorem zl_mk (cs : List Nat) : zl ⟨cs.toArray⟩ = cs := rfl
theorem len_mk (cs : List Nat) : Str.length ⟨cs.toArray⟩ = cs.length := rfl
theorem len_app (a b : Str) : (a ++ b).length = a.length + b.length := Str.length_append a b
theorem len_one (c : Nat) : (one c).length = 1 := rfl
theorem len_cut (a : Str) (lo hi : Option Int) : (cutS a lo hi).length ≤ a.length := cutS_length a lo hi
def onI (f : Int → D) : D → D
  | .int r => f r
  | d => d
theorem onI_map (f : Int → D) (rs : List Int) : (rs.map D.int).map (onI f) = rs.map f := by rw [List.map_map]; rfl
/-- the first place where two rows of the same length part -/
theorem lt_at : ∀ {i : Nat} {xs ys : List Nat} {x y : Nat}, xs.take i = ys.take i → xs[i]? = some x → ys[i]? = some y → x ≠ y → (xs < ys ↔ x < y)
  | 0, x' :: xs, y' :: ys, x, y, _, h1, h2, hn => by
    have h1' : x' = x := by simpa using h1
    have h2' : y' = y := by simpa using h2
    subst h1'; subst h2'
    rw [List.cons_lt_cons_iff]
    exact ⟨fun h => h.elim id fun h => absurd h.1 hn, .inl⟩
  | 0, [], _, x, y, _, h1, _, _ => by simp at h1
  | 0, _ :: _, [], x, y, _, _, h2, _ => by simp at h2
  | i + 1, [], _, x, y, _, h1, _, _ => by simp at h1
  | i + 1, _ :: _, [], x, y, _, _, h2, _ => by simp at h2
  | i + 1, x' :: xs, y' :: ys, x, y, h, h1, h2, hn => by
    rw [List.take_succ_cons, List.take_succ_cons] at h
    injection h with ha hb
    subst ha
    rw [List.cons_lt_cons_iff, ← lt_at hb (by simpa using h1) (by simpa using h2) hn]
    exact ⟨fun h => h.elim (fun h => absurd h (Nat.lt_irrefl _)) And.right, fun h => .inr ⟨rfl, h⟩⟩
theorem take_step {α : Type} {xs ys : List α} {i : Nat} {x : α} (h : xs.take i = ys.take i) (h1 : xs[i]? = some x) (h2 : ys[i]? = some x) : xs.take (i + 1) = ys.take (i + 1) := by
  rw [List.take_succ, List.take_succ, h, h1, h2]
theorem atI_cps {z : Str} {i : Int} (h0 : 0 ≤ i) (h1 : i < z.length) : ∃ c, atI z.cps.toList i = some c ∧ (zl z)[i.toNat]? = some c := by
  have h1' : i < (zl z).length := h1
  rw [atI_nat' h0 h1']
  have h2 : i.toNat < (zl z).length := by omega
  exact ⟨_, List.getElem?_eq_getElem h2, List.getElem?_eq_getElem h2⟩
/-- (len, text) by order -/
theorem lt_lenText (a b : Str) (n m : Int) : ordOk (.tup [.int n, .str a]) (.tup [.int m, .str b]) = true ∧ W.dataLt (D.tup [.int n, .str a]).py (D.tup [.int m, .str b]).py = decide (n < m ∨ (n = m ∧ zl a < zl b)) := by
  refine ⟨by simp [ordOk, D.nx, D.nxs, D.py, D.pys, W.alike, W.alikeAll, PyData.depth, PyData.depthAll], ?_⟩
  rw [D.py, D.py, W.dataLt_tuple, D.pys, D.pys, D.pys, D.pys, D.pys, D.py, D.py, D.pys, D.py, D.py]
  by_cases h : n = m
  · subst h
    rw [W.dataLt_all_yes (by simp [W.alike]) (by simp [PyData.eqv])]
    by_cases e : a = b
    · subst e
      rw [W.dataLt_all_yes (by simp [W.alike]) (by simp [PyData.eqv])]
      rw [decide_eq_false (fun h => h.elim (fun h => by omega) fun h => absurd h.2 (List.lt_irrefl _))]
      exact PyProof.Rows.lex_irrefl _
    · rw [W.dataLt_all_no (by simp [W.alike]) (by simp [PyData.eqv, e]), W.dataLt_str]
      simp
  · rw [W.dataLt_all_no (by simp [W.alike]) (by simp [PyData.eqv, h]), W.dataLt_int]
    simp [h]
/-- a comprehension with a test, by what holds of each item: kept or not, and what is made of it -/
theorem lcL_mapE {own : List Nat} {tg : Tg} {t : M Bool} {f : M O} {e : Sl} (h : D → D) (ds : List D) (hl : ds.length < 10000000)
    (hs : ∀ d ∈ ds, ∃ e1, tg.go d e = some e1 ∧ Ev (t e1) (fun b e2 => b = true ∧ Ev (f e2) (fun o e3 => o.d = h d ∧ wipeE e3 own = e) fun _ _ => False) fun _ _ => False) : lcL own tg t f ds [] e = some (ds.map h, e) :=
  lcL_map h ds hl fun d hd => by
    obtain ⟨e1, h1, h2⟩ := hs d hd
    obtain ⟨b, e2, h3, rfl, h4⟩ := h2.get
    obtain ⟨o, e3, h5, h6, h7⟩ := h4.get
    exact ⟨e1, e2, o, e3, h1, h3, h5, h6, h7⟩
theorem lcL_filtE {own : List Nat} {tg : Tg} {t : M Bool} {f : M O} {e : Sl} (p : D → Bool) (h : D → D) : ∀ (ds acc : List D), acc.length + ds.length < 10000000 →
    (∀ d ∈ ds, ∃ e1, tg.go d e = some e1 ∧ Ev (t e1) (fun b e2 => b = p d ∧ if p d = true then Ev (f e2) (fun o e3 => o.d = h d ∧ wipeE e3 own = e) fun _ _ => False else wipeE e2 own = e) fun _ _ => False) → lcL own tg t f ds acc e = some (acc ++ (ds.filter p).map h, e)
  | [], acc, _, _ => by simp [lcL]
  | d :: ds, acc, hl, hs => by
    obtain ⟨e1, h1, h2⟩ := hs d List.mem_cons_self
    obtain ⟨b, e2, h3, rfl, h4⟩ := h2.get
    have hz : acc.length < sizeLine := by rw [sizeLine_eq]; rw [List.length_cons] at hl; omega
    have hs' := fun d' h => hs d' (List.mem_cons_of_mem _ h)
    rw [List.length_cons] at hl
    cases hp : p d with
    | true =>
      rw [hp, if_pos rfl] at h4
      obtain ⟨o, e3, h5, h6, h7⟩ := h4.get
      have ih := lcL_filtE (own := own) (tg := tg) (t := t) (f := f) (e := e) p h ds (acc ++ [o.d]) (by rw [List.length_append]; simp only [List.length_cons, List.length_nil]; omega) hs'
      rw [h6] at ih
      simp [lcL, h1, h3, hp, h5, hz, h7, ih, h6]
    | false =>
      rw [hp, if_neg Bool.noConfusion] at h4
      have ih := lcL_filtE (own := own) (tg := tg) (t := t) (f := f) (e := e) p h ds acc (by omega) hs'
      simp [lcL, h1, h3, hp, h4, ih]
end Dn

namespace Dn
open PySem L2

/-! ## 26. The operations, case by case -/
section
variable {i j : Int} {a b z : Str} {p q : Bool} {ds es : List D} {ns : List Int} {d x y : D}
theorem gAdd_i : gAdd [.int i, .int j] = some (iO (i + j)) := nr rfl
theorem gAdd_z (h : a.length + b.length ≤ sizeLine) : gAdd [.str a, .str b] = some (sO (a ++ b)) := if_pos h
theorem gAdd_l (h : ds.length + es.length ≤ sizeLine) : gAdd [.lst ds, .lst es] = some (.lst (ds ++ es)) := if_pos h
theorem gAdd_t (h : ds.length + es.length ≤ sizeLine) : gAdd [.tup ds, .tup es] = some (.fr (.tup (ds ++ es))) := if_pos h
theorem gAddI_i : gAddI [.int i, .int j] = some (iO (i + j)) := nr rfl
theorem gSub_i : Dn.gSub [.int i, .int j] = some (iO (i - j)) := nr rfl
theorem gMul_i (h : mulOk i j = true) : gMul [.int i, .int j] = some (iO (i * j)) := if_pos h
theorem gDiv_i (h : j ≠ 0) (h' : j.natAbs < 1073741824) : gDiv [.int i, .int j] = some (iO (i.fdiv j)) := if_pos ⟨h, h'⟩
theorem gMod_i (h : j ≠ 0) : gMod [.int i, .int j] = some (iO (i.fmod j)) := if_pos h
theorem gPow_i (h : 0 ≤ j ∧ j ≤ 1000000 ∧ i.natAbs < 2 ^ 64) : gPow [.int i, .int j] = some (iO (i ^ j.toNat)) := if_pos h
theorem gNeg_i : gNeg [.int i] = some (iO (-i)) := nr rfl
theorem gEq_i : gEq [.int i, .int j] = some (bO (decide (i = j))) := nr rfl
theorem gEq_z : gEq [.str a, .str b] = some (bO (decide (a = b))) := nr rfl
theorem gEq_b : gEq [.bl p, .bl q] = some (bO (decide (p = q))) := nr rfl
theorem gNe_i : gNe [.int i, .int j] = some (bO (!decide (i = j))) := nr rfl
theorem gNe_z : gNe [.str a, .str b] = some (bO (!decide (a = b))) := nr rfl
theorem gNe_b : gNe [.bl p, .bl q] = some (bO (!decide (p = q))) := nr rfl
theorem gEq_l (h : shp (.lst ds) = true) (h' : shp y = true) : gEq [.lst ds, y] = some (bO (D.eqv (.lst ds) y)) := if_pos (by rw [h, h']; rfl)
theorem gEq_t (h : shp (.tup ds) = true) (h' : shp y = true) : gEq [.tup ds, y] = some (bO (D.eqv (.tup ds) y)) := if_pos (by rw [h, h']; rfl)
theorem gEq_s (h : shp (.scr ns) = true) (h' : shp y = true) : gEq [.scr ns, y] = some (bO (D.eqv (.scr ns) y)) := if_pos (by rw [h, h']; rfl)
theorem gEq_n (h' : shp y = true) : gEq [.non, y] = some (bO (D.eqv .non y)) := if_pos (by rw [h']; rfl)
theorem gNe_l (h : shp (.lst ds) = true) (h' : shp y = true) : gNe [.lst ds, y] = some (bO (!D.eqv (.lst ds) y)) := if_pos (by rw [h, h']; rfl)
theorem gNe_t (h : shp (.tup ds) = true) (h' : shp y = true) : gNe [.tup ds, y] = some (bO (!D.eqv (.tup ds) y)) := if_pos (by rw [h, h']; rfl)
theorem gNe_s (h : shp (.scr ns) = true) (h' : shp y = true) : gNe [.scr ns, y] = some (bO (!D.eqv (.scr ns) y)) := if_pos (by rw [h, h']; rfl)
theorem gNe_n (h' : shp y = true) : gNe [.non, y] = some (bO (!D.eqv .non y)) := if_pos (by rw [h']; rfl)
theorem gLt_i : gLt [.int i, .int j] = some (bO (decide (i < j))) := nr rfl
theorem gGt_i : gGt [.int i, .int j] = some (bO (decide (j < i))) := nr rfl
theorem gLe_i : gLe [.int i, .int j] = some (bO (decide (i ≤ j))) := nr rfl
theorem gGe_i : gGe [.int i, .int j] = some (bO (decide (j ≤ i))) := nr rfl
theorem gLt_t (h : ordOk (.tup ds) y = true) : gLt [.tup ds, y] = some (bO (W.dataLt (D.tup ds).py y.py)) := if_pos h
theorem gGt_t (h : ordOk (.tup ds) y = true) : gGt [.tup ds, y] = some (bO (W.dataLt y.py (D.tup ds).py)) := if_pos h
theorem gLe_t (h : ordOk (.tup ds) y = true) : gLe [.tup ds, y] = some (bO (!W.dataLt y.py (D.tup ds).py)) := if_pos h
theorem gGe_t (h : ordOk (.tup ds) y = true) : gGe [.tup ds, y] = some (bO (!W.dataLt (D.tup ds).py y.py)) := if_pos h
theorem gLt_l (h : ordOk (.lst ds) y = true) : gLt [.lst ds, y] = some (bO (W.dataLt (D.lst ds).py y.py)) := if_pos h
theorem gGt_l (h : ordOk (.lst ds) y = true) : gGt [.lst ds, y] = some (bO (W.dataLt y.py (D.lst ds).py)) := if_pos h
theorem gLe_l (h : ordOk (.lst ds) y = true) : gLe [.lst ds, y] = some (bO (!W.dataLt y.py (D.lst ds).py)) := if_pos h
theorem gGe_l (h : ordOk (.lst ds) y = true) : gGe [.lst ds, y] = some (bO (!W.dataLt (D.lst ds).py y.py)) := if_pos h
theorem ord_z : ordOk (.str a) (.str b) = true := by simp [ordOk, D.nx, D.py, W.alike, PyData.depth]
theorem gLt_z : gLt [.str a, .str b] = some (bO (decide (zl a < zl b))) := by
  show (if ordOk (.str a) (.str b) = true then some (bO (W.dataLt (D.str a).py (D.str b).py)) else none) = _
  rw [if_pos ord_z, D.py, D.py, W.dataLt_str]
theorem gGt_z : gGt [.str a, .str b] = some (bO (decide (zl b < zl a))) := by
  show (if ordOk (.str a) (.str b) = true then some (bO (W.dataLt (D.str b).py (D.str a).py)) else none) = _
  rw [if_pos ord_z, D.py, D.py, W.dataLt_str]
theorem gLe_z : gLe [.str a, .str b] = some (bO (!decide (zl b < zl a))) := by
  show (if ordOk (.str a) (.str b) = true then some (bO (!W.dataLt (D.str b).py (D.str a).py)) else none) = _
  rw [if_pos ord_z, D.py, D.py, W.dataLt_str]
theorem gGe_z : gGe [.str a, .str b] = some (bO (!decide (zl a < zl b))) := by
  show (if ordOk (.str a) (.str b) = true then some (bO (!W.dataLt (D.str a).py (D.str b).py)) else none) = _
  rw [if_pos ord_z, D.py, D.py, W.dataLt_str]
theorem gIsN_n : gIsN [.non, .non] = some (bO true) := nr rfl
theorem gIsN_b : gIsN [.bl p, .non] = some (bO false) := nr rfl
theorem gIsN_i : gIsN [.int i, .non] = some (bO false) := nr rfl
theorem gIsN_z : gIsN [.str a, .non] = some (bO false) := nr rfl
theorem gIsN_l : gIsN [.lst ds, .non] = some (bO false) := nr rfl
theorem gIsN_t : gIsN [.tup ds, .non] = some (bO false) := nr rfl
theorem gIsN_s : gIsN [.scr ns, .non] = some (bO false) := nr rfl
theorem gIsN_bb : gIsN [.bl p, .bl q] = some (bO (decide (p = q))) := nr rfl
theorem gNotN_n : gNotN [.non, .non] = some (bO false) := nr rfl
theorem gNotN_b : gNotN [.bl p, .non] = some (bO true) := nr rfl
theorem gNotN_i : gNotN [.int i, .non] = some (bO true) := nr rfl
theorem gNotN_z : gNotN [.str a, .non] = some (bO true) := nr rfl
theorem gNotN_l : gNotN [.lst ds, .non] = some (bO true) := nr rfl
theorem gNotN_t : gNotN [.tup ds, .non] = some (bO true) := nr rfl
theorem gNotN_s : gNotN [.scr ns, .non] = some (bO true) := nr rfl
theorem gNotN_bb : gNotN [.bl p, .bl q] = some (bO (!decide (p = q))) := nr rfl
theorem gIn_z : gIn [.str a, .str b] = some (bO (inStr a b)) := nr rfl
theorem gIn_l (h : shp x = true) (h' : shp (.lst ds) = true) : gIn [x, .lst ds] = some (bO (inL x ds)) := by
  have : (if (shp x && shp (.lst ds)) = true then some (bO (inL x ds)) else none) = some (bO (inL x ds)) := if_pos (by rw [h, h']; rfl)
  cases x <;> exact this
theorem gIn_t (h : shp x = true) (h' : shp (.tup ds) = true) : gIn [x, .tup ds] = some (bO (inL x ds)) := by
  have : (if (shp x && shp (.tup ds)) = true then some (bO (inL x ds)) else none) = some (bO (inL x ds)) := if_pos (by rw [h, h']; rfl)
  cases x <;> exact this
theorem gNotIn_z : gNotIn [.str a, .str b] = some (bO (!inStr a b)) := nr rfl
theorem gNotIn_l (h : shp x = true) (h' : shp (.lst ds) = true) : gNotIn [x, .lst ds] = some (bO (!inL x ds)) := by
  have : (if (shp x && shp (.lst ds)) = true then some (bO (!inL x ds)) else none) = some (bO (!inL x ds)) := if_pos (by rw [h, h']; rfl)
  cases x <;> exact this
theorem gNotIn_t (h : shp x = true) (h' : shp (.tup ds) = true) : gNotIn [x, .tup ds] = some (bO (!inL x ds)) := by
  have : (if (shp x && shp (.tup ds)) = true then some (bO (!inL x ds)) else none) = some (bO (!inL x ds)) := if_pos (by rw [h, h']; rfl)
  cases x <;> exact this
theorem gIx_l : gIx [.lst ds, .int i] = (atI ds i).map .fr := nr rfl
theorem gIx_t : gIx [.tup ds, .int i] = (atI ds i).map .fr := nr rfl
theorem gIx_s : gIx [.scr ns, .int i] = (atI ns i).map iO := nr rfl
theorem gIx_z (h : z.length ≤ sizeLine) : gIx [.str z, .int i] = (atI z.cps.toList i).map fun c => sO (one c) := if_pos h
theorem gLen_l : gLen [.lst ds] = some (iO ds.length) := nr rfl
theorem gLen_t : gLen [.tup ds] = some (iO ds.length) := nr rfl
theorem gLen_s : gLen [.scr ns] = some (iO ns.length) := nr rfl
theorem gLen_z (h : z.length ≤ sizeLine) : gLen [.str z] = some (iO z.length) := if_pos h
theorem gInt_i : gInt [.int i] = some (iO i) := nr rfl
theorem gInt_b : gInt [.bl p] = some (iO (if p then 1 else 0)) := nr rfl
theorem gAbs_i : gAbs [.int i] = some (iO (if i < 0 then -i else i)) := nr rfl
theorem gOrd_1 {c : Nat} : gOrd [.str (one c)] = some (iO (c : Int)) := nr rfl
theorem gList_l : gList [.lst ds] = some (.lst ds) := nr rfl
theorem gList_t : gList [.tup ds] = some (.lst ds) := nr rfl
theorem gList_s : gList [.scr ns] = some (.lst (ns.map .int)) := nr rfl
theorem gTuple_l : gTuple [.lst ds] = some (.fr (.tup ds)) := nr rfl
theorem gTuple_t : gTuple [.tup ds] = some (.fr (.tup ds)) := nr rfl
theorem gApp_q (h : ds.length < sizeLine) : gApp ds d = some (.non, ds ++ [d]) := if_pos h
theorem gPop_q : gPop ds = (ds[ds.length - 1]?).map fun y => (y, ds.dropLast) := nr rfl
theorem gPop0_q (h : -(2 ^ 63) ≤ i ∧ i < 2 ^ 63) : gPop0 ds (.int i) = (ixN ds.length i).bind fun k => (ds[k]?).map fun y => (y, ds.eraseIdx k) := if_pos h
theorem gExt_q (h : ds.length + es.length ≤ sizeLine) : gExt ds (.lst es) = some (.non, ds ++ es) := if_pos h
theorem gRev_q : gRev ds = some (.non, ds.reverse) := nr rfl
theorem gIsi_q {T : String} : gIsi T [d] = (isi T d).map bO := nr rfl
theorem gSl00 : gSl false false [d] = slD d none none := nr rfl
theorem gSl10 : gSl true false [d, .int i] = slD d (some i) none := nr rfl
theorem gSl01 : gSl false true [d, .int j] = slD d none (some j) := nr rfl
theorem gSl11 : gSl true true [d, .int i, .int j] = slD d (some i) (some j) := nr rfl
theorem slD_l {lo hi : Option Int} : slD (.lst ds) lo hi = some (.lst (cutD ds lo hi)) := nr rfl
theorem slD_t {lo hi : Option Int} : slD (.tup ds) lo hi = some (.fr (.tup (cutD ds lo hi))) := nr rfl
theorem slD_s {lo hi : Option Int} : slD (.scr ns) lo hi = some (.lst ((cutD ns lo hi).map .int)) := nr rfl
theorem slD_z {lo hi : Option Int} (h : z.length ≤ sizeLine) : slD (.str z) lo hi = some (sO (cutS z lo hi)) := if_pos h
theorem gRevS_l : gRevS [.lst ds] = some (.lst ds.reverse) := nr rfl
theorem gCount_z : gCount [.str a, .str b] = some (iO (Txt.count a b)) := nr rfl
theorem gStarts_z : gStarts [.str a, .str b] = some (bO (Txt.startswith a b)) := nr rfl
theorem gRstrip_z (h : a.length ≤ sizeLine) : gRstrip [.str a, .str b] = some (sO (Txt.rstripChars a b)) := if_pos h
theorem seqD_l : seqD (.lst ds) = some ds := nr rfl
theorem seqD_t : seqD (.tup ds) = some ds := nr rfl
theorem seqD_s : seqD (.scr ns) = some (ns.map .int) := nr rfl
theorem seqD_z : seqD (.str z) = some (signs z) := nr rfl
def rgR1 (ds : List D) (e : Sl) : Option (Ro (List D)) := match ds with
    | [.int j] => if inR j = true then some (.ok (rngD 0 j) e) else none
    | _ => none
def rgR2 (ds : List D) (e : Sl) : Option (Ro (List D)) := match ds with
    | [.int i, .int j] => if (inR i && inR j) = true then some (.ok (rngD i j) e) else none
    | _ => none
theorem sRng1_e (p : P) (e : Sl) : sRng1 p e = @thn' _ _ (ops [p] e) ⟨fun ds e' => rgR1 ds e'⟩ := nr rfl
theorem sRng2_e (p q : P) (e : Sl) : sRng2 p q e = @thn' _ _ (ops [p, q] e) ⟨fun ds e' => rgR2 ds e'⟩ := nr rfl
theorem rgR1_q {e : Sl} (h : inR j = true) : rgR1 [.int j] e = some (.ok (rngD 0 j) e) := if_pos h
theorem rgR2_q {e : Sl} (h : inR i = true) (h' : inR j = true) : rgR2 [.int i, .int j] e = some (.ok (rngD i j) e) := if_pos (by rw [h, h']; rfl)
theorem inR_len {α : Type} {l : List α} (h : l.length ≤ 10000000) : inR (l.length : Int) = true := by unfold inR; exact decide_eq_true ⟨by omega, by omega⟩
theorem rng0_get {hi : Int} {i : Nat} {d : D} (h : (rngD 0 hi)[i]? = some d) : d = .int i ∧ (i : Int) < hi := by
  obtain ⟨h1, h2⟩ := rngD_get h
  rw [Int.zero_add] at h1
  exact ⟨h1, by omega⟩
theorem rng0_len {n : Nat} : (rngD 0 (n : Int)).length = n := by rw [rngD_len]; omega
/-- short texts: the library's limit, told as a limit of ours -/
theorem sz_of (h : z.length ≤ 10000000) : z.length ≤ sizeLine := by rw [sl_val]; omega
theorem sz_lit {c : Nat} : (one c).length ≤ sizeLine := by rw [sl_val]; show 1 ≤ 16777216; omega
theorem sz2_of (h : a.length + b.length ≤ 10000000) : a.length + b.length ≤ sizeLine := by rw [sl_val]; omega
theorem szl_of (h : ds.length + es.length ≤ 10000000) : ds.length + es.length ≤ sizeLine := by rw [sl_val]; omega
theorem szl1_of' {n : Nat} (h : n < 10000000) : n < sizeLine := by rw [sl_val]; omega
theorem szl1_of (h : ds.length < 10000000) : ds.length < sizeLine := by rw [sl_val]; omega
end
end Dn

namespace Dn
open PySem L2

/-! ## 27. Loops by what is done -/
/-- a for: I of the part that is done -/
theorem Ev_forP {α : Type} {f : α → D} {tg : Tg} {body : M Fl} {X : Exn → Sl → Prop} (I : List α → Sl → Prop) (Q : Fl → Sl → Prop) : ∀ (xs done : List α) (e : Sl), I done e →
    (∀ (pre : List α) (x : α) (post : List α) (e : Sl), done ++ xs = pre ++ x :: post → I pre e → ∃ e1, tg.go (f x) e = some e1 ∧ Ev (body e1) (fun fl e2 => match fl with
      | .next => I (pre ++ [x]) e2
      | .cnt => I (pre ++ [x]) e2
      | .brk => Q .next e2
      | .ret o => Q (.ret o) e2) X) → (∀ e, I (done ++ xs) e → Q .next e) →
    Ev (forL tg body (xs.map f) e) Q X
  | [], done, e, h0, _, hq => hq e (by rw [List.append_nil]; exact h0)
  | x :: xs, done, e, h0, hs, hq => by
    obtain ⟨e1, h1, h2⟩ := hs done x xs e rfl h0
    unfold Ev EvC at h2
    rw [List.map_cons]
    unfold forL
    rw [h1]
    dsimp only
    have e3 : done ++ [x] ++ xs = done ++ x :: xs := by rw [List.append_assoc]; rfl
    cases h3 : body e1 with
    | none => rw [h3] at h2; exact h2.elim
    | some r =>
      rw [h3] at h2
      cases r with
      | ex x e2 => exact h2
      | ok fl e2 =>
        cases fl with
        | next => exact Ev_forP I Q xs (done ++ [x]) e2 h2 (fun pre y post e he => hs pre y post e (by rw [← e3]; exact he)) (fun e he => hq e (by rw [← e3]; exact he))
        | cnt => exact Ev_forP I Q xs (done ++ [x]) e2 h2 (fun pre y post e he => hs pre y post e (by rw [← e3]; exact he)) (fun e he => hq e (by rw [← e3]; exact he))
        | brk => exact h2
        | ret o => exact h2
/-- over the signs of a text -/
theorem signs_map (z : Str) : signs z = (zl z).map fun c => D.str (one c) := rfl
theorem Ev_forZ {z : Str} {tg : Tg} {body : M Fl} {X : Exn → Sl → Prop} {e : Sl} (I : List Nat → Sl → Prop) (Q : Fl → Sl → Prop) (h0 : I [] e)
    (hs : ∀ (pre : List Nat) (c : Nat) (post : List Nat) (e : Sl), zl z = pre ++ c :: post → I pre e → ∃ e1, tg.go (.str (one c)) e = some e1 ∧ Ev (body e1) (fun fl e2 => match fl with
      | .next => I (pre ++ [c]) e2
      | .cnt => I (pre ++ [c]) e2
      | .brk => Q .next e2
      | .ret o => Q (.ret o) e2) X) (hq : ∀ e, I (zl z) e → Q .next e) : Ev (forL tg body (signs z) e) Q X :=
  Ev_forP (f := fun c => D.str (one c)) I Q (zl z) [] e h0 (fun pre x post e he => hs pre x post e he) hq
theorem mem_mid {α : Type} {pre post xs : List α} {x : α} (h : xs = pre ++ x :: post) : x ∈ xs := by rw [h]; exact List.mem_append_right _ List.mem_cons_self
/-- a remainder as both languages have it -/
theorem fm_bd {x m : Int} (h : 0 < m) : 0 ≤ x.fmod m ∧ x.fmod m < m := by rw [fmod_pos h]; exact ⟨mod_ge h, mod_lt h⟩
end Dn

namespace Dn
open PySem L2

/-! ## 28. Data side by side -/
/-- data no deeper than k that the library can lay side by side -/
def Shp (k : Nat) (d : D) : Prop := d.py.canLay0 = true ∧ d.py.depth ≤ k
theorem Shp.shp {k : Nat} {d : D} (h : Shp k d) (hk : k ≤ 64) : shp d = true := by
  unfold Dn.shp SeqAt.shaped
  rw [h.1, decide_eq_true (Nat.le_trans h.2 hk)]; rfl
theorem Shp.mono {k j : Nat} {d : D} (h : Shp k d) (hk : k ≤ j) : Shp j d := ⟨h.1, Nat.le_trans h.2 hk⟩
theorem shp_non : Shp 0 .non := ⟨by rw [D.py]; simp [PyData.canLay0], by rw [D.py]; simp [PyData.depth]⟩
theorem shp_bl (b : Bool) : Shp 0 (.bl b) := ⟨by rw [D.py]; simp [PyData.canLay0], by rw [D.py]; simp [PyData.depth]⟩
theorem shp_int (i : Int) : Shp 0 (.int i) := ⟨by rw [D.py]; simp [PyData.canLay0], by rw [D.py]; simp [PyData.depth]⟩
theorem Shps {k : Nat} : ∀ {ds : List D}, (∀ d ∈ ds, Shp k d) → PyData.canLayAll0 (D.pys ds) = true ∧ PyData.depthAll (D.pys ds) ≤ k
  | [], _ => by rw [D.pys]; simp [PyData.canLayAll0, PyData.depthAll]
  | d :: ds, h => by
    have h1 := h d List.mem_cons_self
    have h2 := Shps fun d' hd => h d' (List.mem_cons_of_mem _ hd)
    rw [D.pys, PyData.canLayAll0, PyData.depthAll, h1.1, h2.1]
    exact ⟨rfl, Nat.max_le.mpr ⟨h1.2, h2.2⟩⟩
theorem shp_lst {k : Nat} {ds : List D} (h : ∀ d ∈ ds, Shp k d) : Shp (k + 1) (.lst ds) := by
  have := Shps h
  refine ⟨by rw [D.py, PyData.canLay0]; exact this.1, by rw [D.py, PyData.depth]; exact Nat.succ_le_succ this.2⟩
theorem shp_tup {k : Nat} {ds : List D} (h : ∀ d ∈ ds, Shp k d) : Shp (k + 1) (.tup ds) := by
  have := Shps h
  refine ⟨by rw [D.py, PyData.canLay0]; exact this.1, by rw [D.py, PyData.depth]; exact Nat.succ_le_succ this.2⟩
theorem shp_str {z : Str} (h : ∀ c ∈ zl z, c < 1114112) : Shp 0 (.str z) := by
  refine ⟨?_, by rw [D.py]; simp [PyData.depth]⟩
  rw [D.py, PyData.canLay0]
  show z.cps.all (· < 0x110000) = true
  rw [← Array.all_toList]
  exact List.all_eq_true.mpr fun c hc => decide_eq_true (h c hc)
theorem eqv_i (i j : Int) : D.eqv (.int i) (.int j) = decide (i = j) := by
  unfold D.eqv; rw [D.py, D.py, PyData.eqv]
  by_cases h : i = j <;> simp [h]
theorem eqv_z (a b : Str) : D.eqv (.str a) (.str b) = decide (a = b) := by
  unfold D.eqv; rw [D.py, D.py, PyData.eqv]
  by_cases h : a = b <;> simp [h]
theorem eqv_nn : D.eqv .non .non = true := by
  unfold D.eqv; rw [D.py]; simp [PyData.eqv]
/-- whole numbers from nought on, as data -/
def nl (ks : List Nat) : List D := ks.map fun (k : Nat) => D.int (k : Int)
theorem nl_app (a b : List Nat) : nl (a ++ b) = nl a ++ nl b := List.map_append
theorem nl_len (a : List Nat) : (nl a).length = a.length := List.length_map _
theorem shp_nl (ks : List Nat) : ∀ d ∈ nl ks, Shp 0 d := fun d hd => by
  obtain ⟨k, _, rfl⟩ := List.mem_map.mp hd
  exact shp_int _
theorem shp_nl_l (ks : List Nat) : shp (.lst (nl ks)) = true := (shp_lst (shp_nl ks)).shp (by omega)
theorem shp_nl_t (ks : List Nat) : shp (.tup (nl ks)) = true := (shp_tup (shp_nl ks)).shp (by omega)
theorem shp_i (i : Int) : shp (.int i) = true := (shp_int i).shp (by omega)
theorem inL_nl (i : Int) (ks : List Nat) : inL (.int i) (nl ks) = decide (∃ k ∈ ks, (k : Int) = i) := by
  unfold inL nl
  rw [List.any_map]
  by_cases h : ∃ k ∈ ks, (k : Int) = i
  · rw [decide_eq_true h]
    obtain ⟨k, hk, e⟩ := h
    exact List.any_eq_true.mpr ⟨k, hk, by show D.eqv _ _ = true; rw [eqv_i]; exact decide_eq_true e⟩
  · rw [decide_eq_false h]
    refine List.any_eq_false.mpr fun k hk => ?_
    show ¬ D.eqv _ _ = true
    rw [eqv_i]
    simp only [decide_eq_true_eq]
    exact fun e => h ⟨k, hk, e⟩
theorem inL_nat (n : Nat) (ks : List Nat) : inL (.int (n : Int)) (nl ks) = decide (n ∈ ks) := by
  rw [inL_nl]
  by_cases h : n ∈ ks
  · rw [decide_eq_true h, decide_eq_true ⟨n, h, rfl⟩]
  · rw [decide_eq_false h, decide_eq_false]
    rintro ⟨k, hk, e⟩
    have : k = n := by omega
    exact h (this ▸ hk)
mutual
def D.pl : D → Bool
  | .non => true
  | .bl _ => false
  | .int _ => true
  | .str _ => true
  | .lst xs => D.pls xs
  | .tup xs => D.pls xs
  | .scr _ => false
  | .opq => false
  | .dct _ _ => false
  | .ins _ _ _ => false
def D.pls : List D → Bool
  | [] => true
  | x :: xs => D.pl x && D.pls xs
end
mutual
theorem D.eqv_same : ∀ {a b : D}, a.pl = true → b.pl = true → (D.eqv a b = true ↔ a = b)
  | .non, b, _, hb => by
    cases b <;> first | (exact absurd hb Bool.noConfusion) | (unfold D.eqv; rw [D.py]; rw [D.py]; simp [PyData.eqv]) | (unfold D.eqv; rw [D.py]; simp [PyData.eqv])
  | .int i, b, _, hb => by
    cases b <;> first | (exact absurd hb Bool.noConfusion) | (unfold D.eqv; rw [D.py]; rw [D.py]; simp [PyData.eqv])
  | .str i, b, _, hb => by
    cases b <;> first | (exact absurd hb Bool.noConfusion) | (unfold D.eqv; rw [D.py]; rw [D.py]; simp [PyData.eqv])
  | .lst xs, b, ha, hb => by
    cases b with
    | bl _ => exact absurd hb Bool.noConfusion
    | scr _ => exact absurd hb Bool.noConfusion
    | opq => exact absurd hb Bool.noConfusion
    | dct _ _ => exact absurd hb Bool.noConfusion
    | ins _ _ _ => exact absurd hb Bool.noConfusion
    | lst ys =>
      unfold D.eqv; rw [D.py, D.py, PyData.eqv]
      rw [D.eqvs_same (show D.pls xs = true by rw [D.pl] at ha; exact ha) (show D.pls ys = true by rw [D.pl] at hb; exact hb)]
      simp
    | _ => unfold D.eqv; rw [D.py]; rw [D.py]; simp [PyData.eqv]
  | .tup xs, b, ha, hb => by
    cases b with
    | bl _ => exact absurd hb Bool.noConfusion
    | scr _ => exact absurd hb Bool.noConfusion
    | opq => exact absurd hb Bool.noConfusion
    | dct _ _ => exact absurd hb Bool.noConfusion
    | ins _ _ _ => exact absurd hb Bool.noConfusion
    | tup ys =>
      unfold D.eqv; rw [D.py, D.py, PyData.eqv]
      rw [D.eqvs_same (show D.pls xs = true by rw [D.pl] at ha; exact ha) (show D.pls ys = true by rw [D.pl] at hb; exact hb)]
      simp
    | _ => unfold D.eqv; rw [D.py]; rw [D.py]; simp [PyData.eqv]
  | .bl _, _, ha, _ => absurd ha Bool.noConfusion
  | .scr _, _, ha, _ => absurd ha Bool.noConfusion
  | .opq, _, ha, _ => absurd ha Bool.noConfusion
  | .dct _ _, _, ha, _ => absurd ha Bool.noConfusion
  | .ins _ _ _, _, ha, _ => absurd ha Bool.noConfusion
theorem D.eqvs_same : ∀ {as bs : List D}, D.pls as = true → D.pls bs = true → (PyData.eqvAll (D.pys as) (D.pys bs) = true ↔ as = bs)
  | [], [], _, _ => by rw [D.pys]; simp [PyData.eqvAll]
  | [], b :: bs, _, _ => by rw [D.pys, D.pys]; simp [PyData.eqvAll]
  | a :: as, [], _, _ => by rw [D.pys, D.pys]; simp [PyData.eqvAll]
  | a :: as, b :: bs, ha, hb => by
    rw [D.pls, Bool.and_eq_true] at ha hb
    rw [D.pys, D.pys, PyData.eqvAll, Bool.and_eq_true, List.cons.injEq]
    exact and_congr (D.eqv_same ha.1 hb.1) (D.eqvs_same ha.2 hb.2)
end
theorem D.pls_of {ds : List D} (h : ∀ d ∈ ds, d.pl = true) : D.pls ds = true := by
  induction ds with
  | nil => rw [D.pls]
  | cons d ds ih => rw [D.pls, h d List.mem_cons_self, ih fun x hx => h x (List.mem_cons_of_mem _ hx)]; rfl
theorem inL_pl {x : D} {ds : List D} (hx : x.pl = true) (hs : ∀ d ∈ ds, d.pl = true) : inL x ds = true ↔ x ∈ ds := by
  unfold inL
  rw [List.any_eq_true]
  exact ⟨fun ⟨y, hy, e⟩ => (D.eqv_same (hs y hy) hx).mp e ▸ hy, fun h => ⟨x, h, (D.eqv_same hx hx).mpr rfl⟩⟩
theorem inL_no {x : D} {ds : List D} (hx : x.pl = true) (hs : ∀ d ∈ ds, d.pl = true) (h : x ∉ ds) : inL x ds = false := Bool.eq_false_iff.mpr fun z => h ((inL_pl hx hs).mp z)
end Dn

namespace Dn
open PySem L2
open Evl (Ex)

/-! ## 29. A text times a number -/
def gMulS : List D → Option O
  | [.str a, .int n] => if 0 ≤ n ∧ n ≤ 100000 ∧ a.length ≤ 100 then some (sO (Txt.mul a n)) else none
  | _ => none
def rMulS : R2 := fun x y H Q => ∃ a n, x = .str a ∧ y = .int n ∧ MulOk a n ∧ Q (.str (Txt.mul a n)) H
theorem o_mulS {X : Cx} : OpR X (binaryOp .Mult) rMulS := by
  intro pins s σ H x y v u Q I rx ry h
  obtain ⟨i, j, rfl, rfl, hz, q⟩ := h
  obtain ⟨t, rfl⟩ := rx
  obtain ⟨t', rfl⟩ := ry
  exact SB.mul hz (fun t' k => ⟨.str (Txt.mul i j), H, I.tok _, ⟨_, rfl⟩, q⟩)
theorem mulS_ok {a : Str} {n : Int} (h0 : 0 ≤ n) (h1 : n ≤ 100000) (h2 : a.length ≤ 100) : MulOk a n := by
  refine ⟨?_, fun hn _ => ?_, fun _ _ => ?_⟩
  · rw [decide_eq_false (by omega), decide_eq_false (by omega)]; rfl
  · have : (100 : Int) ≤ (2 ^ 63 - 1) / n := (Int.le_ediv_iff_mul_le (by omega)).mpr (by omega)
    omega
  · show decide (a.length * n.toNat > sizeLine) = false
    rw [sl_val]
    refine decide_eq_false ?_
    have h3 : n.toNat ≤ 100000 := by omega
    have := Nat.mul_le_mul h2 h3
    omega
theorem n_mulS {K : PySem.W.Frag} : Snd2 K rMulS gMulS := fun B H x y a b o hx ha hb hg Q q => by
  cases a <;> cases b <;> simp only [gMulS] at hg <;> (try cases hg)
  split at hg
  · rename_i hc
    cases hg; cases ha; cases hb
    exact ⟨_, _, rfl, rfl, mulS_ok hc.1 hc.2.1 hc.2.2, q.fr hx (.str _)⟩
  · cases hg
theorem gMulS_q {a : Str} {n : Int} (h : 0 ≤ n ∧ n ≤ 100000 ∧ a.length ≤ 100) : gMulS [.str a, .int n] = some (sO (Txt.mul a n)) := if_pos h
theorem zl_mul1 (c : Nat) (n : Int) : zl (Txt.mul (one c) n) = List.replicate n.toNat c := PyProof.Rows.mul_one_list c n
theorem len_mul1 (c : Nat) (n : Int) : (Txt.mul (one c) n).length = n.toNat := by rw [len_zl, zl_mul1, List.length_replicate]
end Dn


/-! ## 30. Order that looks at the first difference alone -/
namespace Dn.Fd
open PySem PySem.SeqAt
open PySem.AutoSeq1 (wpAny_loadPart')
open PySem.MeetsSeq PySem.MeetsSeq2 PySem.MeetsSeq3
open PySem.SeqRoads2

/-- what is known of two rows: whether each pair is equal, and at the first pair that is not, how it compares -/
structure Pairs (A : Around) (s : Shared) (p q : Array Value) (eq lt : Nat → Bool) : Prop where
  same : ∀ k (kp : k < p.size) (kq : k < q.size), EqAt A s p[k] q[k] (eq k)
  less : ∀ k (kp : k < p.size) (kq : k < q.size), (∀ m, m < k → eq m = true) → eq k = false → RcLt A s p[k] q[k] (lt k)
/-- the answer from place k on -/
def ansAt (eq lt : Nat → Bool) (z : Bool) : Nat → Nat → Bool
  | _, 0 => z
  | k, left + 1 => if eq k = true then ansAt eq lt z (k + 1) left else lt k
theorem tupMeets (u v : Addr) (p q : Array Value) (c c2 : Nat) (e1 e2 : Option Addr) (o1 o2 : Array (Option Value)) (eq lt : Nat → Bool) :
    Meets (Builtin.«tuple.__lt__» ⟨[.ref u, .ref v], []⟩) (fun A R s =>
      s.heap.get? u = some ⟨.type "tuple", e1, .seq p c, o1⟩ ∧ s.heap.get? v = some ⟨.type "tuple", e2, .seq q c2, o2⟩ ∧ Pairs A.in1 s p q eq lt ∧
      R (.ok (.ret (.bool (ansAt eq lt (decide (p.size < q.size)) 0 (min p.size q.size))))) s) := .of_wp fun prog w A R s given => by
  obtain ⟨hp, g, d, tk, os⟩ := s
  obtain ⟨gu, gv, pr, fin⟩ := given
  have sub := AutoSeq1.sub_tuple_tuple
  have zl : (p.toList.zip q.toList).length = min p.size q.size := by simp
  wp_walk using wpAny_loadPart' gu, wpAny_loadPart' gv, wpAny_forIn_list _ (fun todo acc s' => acc.1 = none ∧ s' = ⟨hp, g, d, tk, os⟩ ∧ ∃ k, todo = (p.toList.zip q.toList).drop k ∧ (∀ m, m < k → eq m = true) ∧
    R (.ok (.ret (.bool (ansAt eq lt (decide (p.size < q.size)) k (min p.size q.size - k))))) ⟨hp, g, d, tk, os⟩) _
  case turn =>
    rintro ⟨a, b⟩ todo acc s' ⟨ha, rfl, k, hk, before, an⟩
    have kl : k < (p.toList.zip q.toList).length := Nat.lt_of_not_le fun h => by rw [List.drop_of_length_le h] at hk; cases hk
    have km : k < min p.size q.size := zl ▸ kl
    have kp : k < p.size := by omega
    have kq : k < q.size := by omega
    rw [List.drop_eq_getElem_cons kl] at hk
    injection hk with hd tl
    obtain ⟨rfl, rfl⟩ : a = p[k] ∧ b = q[k] := by
      constructor
      · simpa using congrArg Prod.fst hd
      · simpa using congrArg Prod.snd hd
    rw [show min p.size q.size - k = (min p.size q.size - (k + 1)) + 1 by omega, ansAt] at an
    refine wpAny_bind (pr.same k kp kq prog w _ _ ?_)
    cases h : eq k with
    | true =>
      rw [h, if_pos rfl] at an
      have before2 : ∀ m, m < k + 1 → eq m = true := fun m hm => (Nat.lt_succ_iff_lt_or_eq.mp hm).elim (before m) fun e => e ▸ h
      wp_walk
      exact ⟨rfl, rfl, k + 1, tl, before2, an⟩
    | false =>
      rw [h, if_neg Bool.false_ne_true] at an
      have now := pr.less k kp kq before h prog w
      wp_walk using now
      exact ⟨_, rfl, by simpa using an⟩
  case fin =>
    rintro ⟨a, b⟩ s' ⟨ha, rfl, k, hk, before, an⟩
    simp only at ha
    subst ha
    have done : min p.size q.size - k = 0 := by
      have : ¬ k < (p.toList.zip q.toList).length := fun h => by rw [List.drop_eq_getElem_cons h] at hk; cases hk
      omega
    rw [done, ansAt] at an
    wp_walk
    exact ⟨_, rfl, by simpa [Builtin.Tuple.tupleCompareSizes] using an⟩
  case h => exact ⟨rfl, rfl, 0, rfl, fun m hm => absurd hm (Nat.not_lt_zero _), by simpa using fin⟩
theorem loopMeets (u v : Addr) (p q : Array Value) (c c2 : Nat) (e1 e2 : Option Addr) (o1 o2 : Array (Option Value)) (eq lt : Nat → Bool) : ∀ left k : Nat, min p.size q.size - k = left → (∀ m, m < k → eq m = true) →
    Meets (Builtin.«list.__eq__.loop» ⟨[.ref u, .ref v, rawInt k, rawInt 0], []⟩) (fun A R s =>
      s.heap.get? u = some ⟨.type "list", e1, .seq p c, o1⟩ ∧ s.heap.get? v = some ⟨.type "list", e2, .seq q c2, o2⟩ ∧ Pairs A.in1 s p q eq lt ∧
      R (.ok (.ret (.bool (ansAt eq lt (decide (p.size < q.size)) k left)))) s)
  | 0, k, hk, before => fun prog w A R s given => by
    obtain ⟨hp, g, d, tk, os⟩ := s
    obtain ⟨gu, gv, pr, fin⟩ := given
    rw [ansAt] at fin
    wp_walk using wpAny_loadPart' gu, wpAny_loadPart' gv
    by_cases hs : p.size ≤ k
    · have n1 : p[((k : Nat) : Int).toNat]? = none := by simp; omega
      rw [n1]
      wp_walk using wpAny_loadPart' gu, wpAny_loadPart' gv
      exact fin
    · have kp : k < p.size := by omega
      have n1 : p[((k : Nat) : Int).toNat]? = some p[k] := by simp [kp]
      have n2 : q[((k : Nat) : Int).toNat]? = none := by simp; omega
      rw [n1, n2]
      wp_walk using wpAny_loadPart' gu, wpAny_loadPart' gv
      exact fin
  | left + 1, k, hk, before => fun prog w A R s given => by
    have ih := loopMeets u v p q c c2 e1 e2 o1 o2 eq lt left (k + 1) (by omega)
    obtain ⟨hp, g, d, tk, os⟩ := s
    obtain ⟨gu, gv, pr, fin⟩ := given
    rw [ansAt] at fin
    wp_walk using wpAny_loadPart' gu, wpAny_loadPart' gv
    have kp : k < p.size := by omega
    have kq : k < q.size := by omega
    have n1 : p[((k : Nat) : Int).toNat]? = some p[k] := by simp [kp]
    have n2 : q[((k : Nat) : Int).toNat]? = some q[k] := by simp [kq]
    have up : ((k : Int) + 1) = ((k + 1 : Nat) : Int) := by push_cast; rfl
    rw [n1, n2]
    refine wpAny_bind (pr.same k kp kq prog w _ _ ?_)
    cases h : eq k with
    | true =>
      rw [h, if_pos rfl] at fin
      have before2 : ∀ m, m < k + 1 → eq m = true := fun m hm => (Nat.lt_succ_iff_lt_or_eq.mp hm).elim (before m) fun e => e ▸ h
      wp_walk
      rw [up]
      refine ⟨plainId_quiet plain_eq_loop _, codeAny_builtin entry_eq_loop ?_⟩
      rw [Around.under_plainId plain_eq_loop _]
      exact ih before2 prog w A R _ ⟨gu, gv, pr, fin⟩
    | false =>
      rw [h, if_neg Bool.false_ne_true] at fin
      wp_walk using wpAny_loadPart' gu, wpAny_loadPart' gv
      rw [n1, n2]
      have now := pr.less k kp kq before h prog w
      wp_walk using now
      exact fin
theorem lstMeets (u v : Addr) (p q : Array Value) (c c2 : Nat) (e1 e2 : Option Addr) (o1 o2 : Array (Option Value)) (eq lt : Nat → Bool) :
    Meets (Builtin.«list.__lt__» ⟨[.ref u, .ref v], []⟩) (fun A R s =>
      s.heap.get? u = some ⟨.type "list", e1, .seq p c, o1⟩ ∧ s.heap.get? v = some ⟨.type "list", e2, .seq q c2, o2⟩ ∧ Pairs A.in1 s p q eq lt ∧
      R (.ok (.ret (.bool (ansAt eq lt (decide (p.size < q.size)) 0 (min p.size q.size))))) s) := fun prog w A R s given => by
  obtain ⟨hp, g, d, tk, os⟩ := s
  obtain ⟨gu, gv, pr, fin⟩ := given
  have sub := AutoSeq1.sub_list_list
  wp_walk using wpAny_loadPart' gu, wpAny_loadPart' gv
  refine ⟨plainId_quiet plain_eq_loop _, codeAny_builtin entry_eq_loop ?_⟩
  rw [Around.under_plainId plain_eq_loop _]
  exact loopMeets u v p q c c2 e1 e2 o1 o2 eq lt _ 0 rfl (fun m hm => absurd hm (Nat.not_lt_zero _)) prog w A R _ ⟨gu, gv, pr, by simpa using fin⟩
section
variable {A : Around} {s : Shared} {u v : Addr} {p q : Array Value} {eq lt : Nat → Bool}
theorem tupLt (hu : s.heap.IsTuple u p) (hv : s.heap.IsTuple v q) (room : A.units < cLine) (pr : Pairs A.in1 s p q eq lt) : RcLt A s (.ref u) (.ref v) (ansAt eq lt (decide (p.size < q.size)) 0 (min p.size q.size)) := fun prog w E Q h => by
  obtain ⟨⟨k1, e1, d1, o1⟩, g1, t1, c1, s1⟩ := id hu
  obtain ⟨⟨k2, e2, d2, o2⟩, g2, t2, c2, s2⟩ := id hv
  simp only at t1 s1 t2 s2
  subst t1 s1 t2 s2
  refine richCompare_meets_room (op := .Lt) ⟨_, g1, rfl⟩ ⟨_, g2, rfl⟩ F.slot_tuple_lt F.entry_tuple_lt (F.args_tuple_lt_2 _ _) (tupMeets u v p q c1 c2 e1 e2 o1 o2 eq lt) ⟨g1, g2, pr, ?_⟩ room
  exact (show Value.bool _ ≠ Value.notImplemented ∧ _ from ⟨(fun x => nomatch x), h⟩)
theorem lstLt (hu : s.heap.IsList u p) (hv : s.heap.IsList v q) (room : A.units < cLine) (pr : Pairs A.in1 s p q eq lt) : RcLt A s (.ref u) (.ref v) (ansAt eq lt (decide (p.size < q.size)) 0 (min p.size q.size)) := fun prog w E Q h => by
  obtain ⟨⟨k1, e1, d1, o1⟩, g1, t1, c1, s1⟩ := id hu
  obtain ⟨⟨k2, e2, d2, o2⟩, g2, t2, c2, s2⟩ := id hv
  simp only at t1 s1 t2 s2
  subst t1 s1 t2 s2
  refine richCompare_meets_room (op := .Lt) ⟨_, g1, rfl⟩ ⟨_, g2, rfl⟩ F.slot_list_lt F.entry_list_lt (F.args_list_lt_2 _ _) (lstMeets u v p q c1 c2 e1 e2 o1 o2 eq lt) ⟨g1, g2, pr, ?_⟩ room
  exact (show Value.bool _ ≠ Value.notImplemented ∧ _ from ⟨(fun x => nomatch x), h⟩)
end
end Dn.Fd

namespace Dn
open PySem L2
open Evl (Ex)
open PySem.SeqAt
/-! the order of data, by the first difference -/
mutual
/-- x < y, at the first difference -/
def ltD : PyData → PyData → Bool
  | .int x, .int y => decide (x < y)
  | .str x, .str y => decide (x.cps.toList < y.cps.toList)
  | .bool x, .bool y => W.dataLt (.bool x) (.bool y)
  | .list xs, .list ys => ltDs xs ys
  | .tuple xs, .tuple ys => ltDs xs ys
  | _, _ => false
def ltDs : List PyData → List PyData → Bool
  | [], [] => false
  | [], _ :: _ => true
  | _ :: _, [] => false
  | x :: xs, y :: ys => if PyData.eqv x y = true then ltDs xs ys else ltD x y
end
mutual
/-- the first difference is one that < can tell -/
def cmpD : PyData → PyData → Bool
  | .int _, .int _ => true
  | .str _, .str _ => true
  | .bool _, .bool _ => true
  | .list xs, .list ys => cmpDs xs ys
  | .tuple xs, .tuple ys => cmpDs xs ys
  | _, _ => false
def cmpDs : List PyData → List PyData → Bool
  | x :: xs, y :: ys => if PyData.eqv x y = true then cmpDs xs ys else cmpD x y
  | _, _ => true
end
theorem ansAt_shift (eq lt : Nat → Bool) (z : Bool) : ∀ left k, Fd.ansAt eq lt z (k + 1) left = Fd.ansAt (fun i => eq (i + 1)) (fun i => lt (i + 1)) z k left
  | 0, k => rfl
  | left + 1, k => by
    rw [Fd.ansAt, Fd.ansAt, ansAt_shift eq lt z left (k + 1)]
theorem ansAt_ltDs : ∀ xs ys : List PyData, Fd.ansAt (fun j => PyData.eqv (xs.getD j .none) (ys.getD j .none)) (fun j => ltD (xs.getD j .none) (ys.getD j .none)) (decide (xs.length < ys.length)) 0 (min xs.length ys.length) = ltDs xs ys
  | [], [] => by simp [Fd.ansAt, ltDs]
  | [], y :: ys => by simp [Fd.ansAt, ltDs]
  | x :: xs, [] => by simp [Fd.ansAt, ltDs]
  | x :: xs, y :: ys => by
    have ih := ansAt_ltDs xs ys
    rw [show min (x :: xs).length (y :: ys).length = min xs.length ys.length + 1 by rw [List.length_cons, List.length_cons]; omega, Fd.ansAt, ansAt_shift]
    rw [ltDs]
    show (if PyData.eqv x y = true then _ else ltD x y) = _
    have e : decide ((x :: xs).length < (y :: ys).length) = decide (xs.length < ys.length) := by simp
    rw [e]
    by_cases h : PyData.eqv x y = true
    · rw [if_pos h, if_pos h, ← ih]; rfl
    · rw [if_neg h, if_neg h]
theorem cmpDs_cons {x y : PyData} {xs ys : List PyData} (h : cmpDs (x :: xs) (y :: ys) = true) : (PyData.eqv x y = true → cmpDs xs ys = true) ∧ (PyData.eqv x y = false → cmpD x y = true) := by
  rw [cmpDs] at h
  refine ⟨fun e => by rwa [if_pos e] at h, fun e => by rwa [e, if_neg Bool.false_ne_true] at h⟩
theorem len_of_reads {h : Heap} {vs : Array Value} {xs : List PyData} {as : List Addr} (r : ReadsAll h vs.toList xs as) : vs.size = xs.length := by
  have := ReadsAll.length _ _ _ r
  simpa using this
mutual
theorem rcLtD : ∀ (d e : PyData) (A : Around) (s : Shared) (a b : Value) (as bs : List Addr), Reads s.heap a d as → Reads s.heap b e bs → d.canLay0 = true → e.canLay0 = true → cmpD d e = true → A.units + min d.depth e.depth < cLine → RcLt A s a b (ltD d e)
  | .int x, e, A, s, a, b, as, bs, ra, rb, _, _, hc, room => by
    cases e with
    | int y =>
      have := W.rcLt_alike (.int x) (.int y) A s a b as bs ra rb (by simp [W.alike]) (fun z => nomatch z) room
      rw [W.dataLt_int] at this
      rw [ltD]; exact this
    | _ => exact absurd hc (by simp [cmpD])
  | .str x, e, A, s, a, b, as, bs, ra, rb, _, _, hc, room => by
    cases e with
    | str y =>
      have := W.rcLt_alike (.str x) (.str y) A s a b as bs ra rb (by simp [W.alike]) (fun z => nomatch z) room
      rw [W.dataLt_str] at this
      rw [ltD]; exact this
    | _ => exact absurd hc (by simp [cmpD])
  | .bool x, e, A, s, a, b, as, bs, ra, rb, _, _, hc, room => by
    cases e with
    | bool y =>
      have := W.rcLt_alike (.bool x) (.bool y) A s a b as bs ra rb (by simp [W.alike]) (fun z => nomatch z) room
      rw [ltD]; exact this
    | _ => exact absurd hc (by simp [cmpD])
  | .none, e, _, _, _, _, _, _, _, _, _, _, hc, _ => absurd hc (by cases e <;> simp [cmpD])
  | .dict _, e, _, _, _, _, _, _, _, _, _, _, hc, _ => absurd hc (by cases e <;> simp [cmpD])
  | .list xs, e, A, s, a, b, as, bs, ra, rb, la, lb, hc, room => by
    cases e with
    | list ys =>
      rw [PyData.canLay0] at la lb
      rw [cmpD] at hc
      cases ra with
      | @list u o p c _ as1 g1 g2 g3 g4 =>
        cases rb with
        | @list v o' q c' _ bs1 f1 f2 f3 f4 =>
          have n1 := len_of_reads g4
          have n2 := len_of_reads f4
          have big := Fd.lstLt (s := s) ⟨_, g1, g2, _, g3⟩ ⟨_, f1, f2, _, f3⟩ (room_here room) (eq := pairEq xs ys) (lt := fun j => ltD (xs.getD j .none) (ys.getD j .none)) ⟨fun k kp kq => by
            have := eqAt_readsAll xs ys A.in1 s p.toList q.toList _ _ g4 f4 la lb (room_in room) k (by simpa using kp) (by simpa using kq)
            simpa using this, fun k kp kq bef no => by
            have := rcLtDs xs ys A.in1 s p.toList q.toList _ _ g4 f4 la lb hc (room_in room) k (by simpa using kp) (by simpa using kq) bef no
            simpa using this⟩
          rw [n1, n2] at big
          have ans := ansAt_ltDs xs ys
          rw [ltD, ← ans]
          exact big
    | _ => exact absurd hc (by simp [cmpD])
  | .tuple xs, e, A, s, a, b, as, bs, ra, rb, la, lb, hc, room => by
    cases e with
    | tuple ys =>
      rw [PyData.canLay0] at la lb
      rw [cmpD] at hc
      cases ra with
      | @tuple u o p c _ as1 g1 g2 g3 g4 =>
        cases rb with
        | @tuple v o' q c' _ bs1 f1 f2 f3 f4 =>
          have n1 := len_of_reads g4
          have n2 := len_of_reads f4
          have big := Fd.tupLt (s := s) ⟨_, g1, g2, _, g3⟩ ⟨_, f1, f2, _, f3⟩ (room_here room) (eq := pairEq xs ys) (lt := fun j => ltD (xs.getD j .none) (ys.getD j .none)) ⟨fun k kp kq => by
            have := eqAt_readsAll xs ys A.in1 s p.toList q.toList _ _ g4 f4 la lb (room_in room) k (by simpa using kp) (by simpa using kq)
            simpa using this, fun k kp kq bef no => by
            have := rcLtDs xs ys A.in1 s p.toList q.toList _ _ g4 f4 la lb hc (room_in room) k (by simpa using kp) (by simpa using kq) bef no
            simpa using this⟩
          rw [n1, n2] at big
          have ans := ansAt_ltDs xs ys
          rw [ltD, ← ans]
          exact big
    | _ => exact absurd hc (by simp [cmpD])
theorem rcLtDs : ∀ (xs ys : List PyData) (A : Around) (s : Shared) (vs ws : List Value) (as bs : List Addr), ReadsAll s.heap vs xs as → ReadsAll s.heap ws ys bs → PyData.canLayAll0 xs = true → PyData.canLayAll0 ys = true → cmpDs xs ys = true → A.units + min (PyData.depthAll xs) (PyData.depthAll ys) < cLine →
    ∀ k (kp : k < vs.length) (kq : k < ws.length), (∀ m, m < k → pairEq xs ys m = true) → pairEq xs ys k = false → RcLt A s vs[k] ws[k] (ltD (xs.getD k .none) (ys.getD k .none))
  | [], _, _, _, _, _, _, _, ra, _, _, _, _, _, _, kp, _, _, _ => by cases ra; exact absurd kp (Nat.not_lt_zero _)
  | _ :: _, [], _, _, _, _, _, _, _, rb, _, _, _, _, _, _, kq, _, _ => by cases rb; exact absurd kq (Nat.not_lt_zero _)
  | x :: xs, y :: ys, A, s, _, _, _, _, ra, rb, la, lb, hc, room, k, kp, kq, bef, no => by
    rw [PyData.canLayAll0, Bool.and_eq_true] at la lb
    have cc := cmpDs_cons hc
    cases ra with
    | cons r rs =>
      cases rb with
      | cons r' rs' =>
        cases k with
        | zero => exact rcLtD x y A s _ _ _ _ r r' la.1 lb.1 (cc.2 no) (room_head room)
        | succ k => exact rcLtDs xs ys A s _ _ _ _ rs rs' la.2 lb.2 (cc.1 (bef 0 (Nat.succ_pos k))) (room_tail room) k (Nat.lt_of_succ_lt_succ kp) (Nat.lt_of_succ_lt_succ kq) (fun m hm => bef (m + 1) (Nat.succ_lt_succ hm)) no
end
end Dn

namespace Dn
open PySem L2
open Evl (Ex)

/-! ## 31. < of tuples and of lists, by the first difference -/
def ltOk (a b : D) : Bool := shp a && shp b && cmpD a.py b.py
def gLtX : List D → Option O
  | [.tup a, .tup b] => if ltOk (.tup a) (.tup b) = true then some (bO (ltD (D.tup a).py (D.tup b).py)) else none
  | [.lst a, .lst b] => if ltOk (.lst a) (.lst b) = true then some (bO (ltD (D.lst a).py (D.lst b).py)) else none
  | l => gLt l
def rFst (K : PySem.W.Frag) : R2 := fun x y H Q => ∃ d e, Dp K H x d ∧ Dp K H y e ∧ SeqAt.shaped d = true ∧ SeqAt.shaped e = true ∧ cmpD d e = true ∧ Q (.bl (ltD d e)) H
section
variable {X : Cx}
theorem o_fst (hu : X.A.units + 64 < cLine) : OpR X (compareOp .Lt) (rFst X.K) := by
  intro pins s σ H x y v u Q I rx ry h
  obtain ⟨d, e, hd, he, sd, se, hc, q⟩ := h
  obtain ⟨as, r1⟩ := Dp.reads I d x v hd rx
  obtain ⟨bs, r2⟩ := Dp.reads I e y u he ry
  exact rcLtD d e _ _ v u as bs r1 r2 (SeqAt.canLay_of_shaped sd) (SeqAt.canLay_of_shaped se) hc (SeqAt.room_of_shaped sd hu) _ _ _ _ ⟨.bl _, H, I, rfl, q⟩
def rLtX (K : PySem.W.Frag) : R2 := fun x y H Q => rFst K x y H Q ∨ rLtO K x y H Q
theorem o_ltX (hu : X.A.units + 64 < cLine) : OpR X (compareOp .Lt) (rLtX X.K) := (o_fst hu).or (o_lt hu)
theorem lt_of {a b : D} (h : ltOk a b = true) : shp a = true ∧ shp b = true ∧ cmpD a.py b.py = true := by
  unfold ltOk at h
  rw [Bool.and_eq_true, Bool.and_eq_true] at h
  exact ⟨h.1.1, h.1.2, h.2⟩
theorem n_ltX {K : PySem.W.Frag} : Snd2 K (rLtX K) gLtX := fun B H x y a b o hx ha hb hg Q q => by
  unfold gLtX at hg
  split at hg
  · rename_i h; cases h
    split at hg
    · rename_i hs
      cases hg
      obtain ⟨h1, h2, h3⟩ := lt_of hs
      exact .inl ⟨_, _, ha.dp hx (shp_nx h1), hb.dp hx (shp_nx h2), h1, h2, h3, q.fr hx (.bl _)⟩
    · cases hg
  · rename_i h; cases h
    split at hg
    · rename_i hs
      cases hg
      obtain ⟨h1, h2, h3⟩ := lt_of hs
      exact .inl ⟨_, _, ha.dp hx (shp_nx h1), hb.dp hx (shp_nx h2), h1, h2, h3, q.fr hx (.bl _)⟩
    · cases hg
  · exact .inr (n_lt B H x y a b o hx ha hb hg Q q)
end
section
variable {i j : Int} {a b : Str} {ds es : List D}
theorem gLtX_i : gLtX [.int i, .int j] = some (bO (decide (i < j))) := nr rfl
theorem gLtX_z : gLtX [.str a, .str b] = some (bO (decide (zl a < zl b))) := gLt_z
theorem gLtX_t (h : ltOk (.tup ds) (.tup es) = true) : gLtX [.tup ds, .tup es] = some (bO (ltD (D.tup ds).py (D.tup es).py)) := if_pos h
theorem gLtX_l (h : ltOk (.lst ds) (.lst es) = true) : gLtX [.lst ds, .lst es] = some (bO (ltD (D.lst ds).py (D.lst es).py)) := if_pos h
end
theorem cutD_map {α β : Type} (f : α → β) (xs : List α) (lo hi : Option Int) : cutD (xs.map f) lo hi = (cutD xs lo hi).map f := by
  unfold cutD; rw [List.length_map, List.map_take, List.map_drop]
theorem cutD_mem {α : Type} {xs : List α} {lo hi : Option Int} {x : α} (h : x ∈ cutD xs lo hi) : x ∈ xs := by
  unfold cutD at h; exact List.mem_of_mem_drop (List.mem_of_mem_take h)
theorem cutD_len_hi {α : Type} (xs : List α) {m : Int} (h : 0 ≤ m) : (cutD xs none (some m)).length ≤ m.toNat := by
  unfold cutD
  rw [HT.sIx_none, Nat.sub_zero, List.drop_zero, List.length_take, ← Int.toNat_of_nonneg h, HT.sIx_nat]
  omega
theorem cutS_mem {z : Str} {lo hi : Option Int} {c : Nat} (h : c ∈ zl (cutS z lo hi)) : c ∈ zl z := by
  unfold cutS at h; exact List.mem_of_mem_drop (List.mem_of_mem_take h)
end Dn

namespace Dn
open PySem L2
open Evl (Ex)

/-! ## 32. list(x), of a text too -/
def rLstS : List V → Hp → VK → Prop := fun xs H Q => ∃ z : Str, xs = [.str z] ∧ z.length ≤ sizeLine ∧ ∀ l, H l = none → Q (.ref l) (upd H l (.lst ((zl z).map fun c => V.str (one c))))
theorem valsAt : ∀ (xs : List V) (us : List Value), us.length = xs.length → (∀ (j : Nat) (u : Value), us[j]? = some u → ∃ x, xs[j]? = some x ∧ RelV x u) → Vals xs us
  | [], [], _, _ => .nil
  | [], _ :: _, h, _ => by cases h
  | _ :: _, [], h, _ => by cases h
  | x :: xs, u :: us, h, k => by
    obtain ⟨y, hy, r⟩ := k 0 u rfl
    cases hy
    exact .cons r (valsAt xs us (Nat.succ.inj h) fun j v hv => k (j + 1) v hv)
theorem cr_listS {X : Cx} (hc : X.calm = true) : CallR X (.type "list") rLstS := by
  intro pins s σ H xs us Q I r h
  obtain ⟨z, rfl, hz, q⟩ := h
  obtain ⟨u, rfl, t, rfl⟩ := vals1 r
  refine call_list_str (I.ok.hd hc) z t (hn := hz) fun h' tk acc c' hk e hi => ?_
  refine ⟨.ref s.heap.objs.size, upd H s.heap.objs.size (.lst ((zl z).map fun c => V.str (one c))), I.laid hk (Nat.le_refl _) ⟨by rw [List.length_map]; exact hz, acc.toList, c', ?_, by rw [Array.toArray_toList]; exact e⟩, rfl, q _ (I.hok.fresh (Nat.le_refl _))⟩
  refine valsAt _ _ (by rw [List.length_map, Array.length_toList]; exact hi.1) fun j u hj => ?_
  obtain ⟨c, t', hc', rfl⟩ := hi.2 j u (by rw [← Array.getElem?_toList]; exact hj)
  exact ⟨.str (one c), by simp [hc'], ⟨_, rfl⟩⟩
def gListX : List D → Option O
  | [.str z] => if z.length ≤ sizeLine then some (.lst (signs z)) else none
  | l => gList l
def rListX (K : PySem.W.Frag) : List V → Hp → VK → Prop := fun xs H Q => rLstS xs H Q ∨ (∃ p ys, xs = [.ref p] ∧ (SqL K H p ys ∨ SqT K H p ys) ∧ ∀ l, H l = none → Q (.ref l) (upd H l (.lst ys)))
theorem cr_listX {X : Cx} (hc : X.calm = true) : CallR X (.type "list") (rListX X.K) := (cr_listS hc).or call_list_of
theorem n_listX {K : PySem.W.Frag} : SndN K (rListX K) gListX := fun B H vs ds o hx hr hg Q q => by
  unfold gListX at hg
  split at hg
  · split at hg
    · rename_i hl
      cases hg
      obtain ⟨v, rfl, h⟩ := hr.one
      cases h
      refine .inl ⟨_, rfl, hl, fun l hn => q.newL hx ?_ hn⟩
      rename_i z
      show RepL K B ((zl z).map fun c => V.str (one c)) ((zl z).map fun c => D.str (one c))
      induction zl z with
      | nil => exact .nil
      | cons c cs ih => exact .cons (.str _) ih
    · cases hg
  · exact .inr (n_list B H vs ds o hx hr hg Q q)
theorem gListX_z {z : Str} (h : z.length ≤ sizeLine) : gListX [.str z] = some (.lst (signs z)) := if_pos h
theorem gListX_l {ds : List D} : gListX [.lst ds] = some (.lst ds) := nr rfl
theorem gListX_t {ds : List D} : gListX [.tup ds] = some (.lst ds) := nr rfl
theorem gListX_s {ns : List Int} : gListX [.scr ns] = some (.lst (ns.map .int)) := nr rfl
end Dn

namespace Dn
open PySem L2

/-! ## 33. Ways apart; what is drawn -/
section
variable {α β γ : Type}
theorem Ev_ite {c : Prop} [Decidable c] {a b : Option (Ro α)} {Q : PostE α} {X : PostE Exn} (h1 : c → @EvC _ a Q X) (h2 : ¬ c → @EvC _ b Q X) : @EvC _ (if c then a else b) Q X := by
  by_cases h : c
  · rw [if_pos h]; exact h1 h
  · rw [if_neg h]; exact h2 h
theorem skol2 {P : α → β → γ → Prop} (h : ∀ x, ∃ a b, P x a b) : ∃ (f : α → β) (g : α → γ), ∀ x, P x (f x) (g x) :=
  ⟨fun x => (h x).choose, fun x => (h x).choose_spec.choose, fun x => (h x).choose_spec.choose_spec⟩
theorem skol1 {P : α → β → Prop} (h : ∀ x, ∃ a, P x a) : ∃ (f : α → β), ∀ x, P x (f x) :=
  ⟨fun x => (h x).choose, fun x => (h x).choose_spec⟩
end
theorem ex_map {α β : Type} {P : α → Prop} {f : α → β} : ∀ {xs : List β}, (∀ x ∈ xs, ∃ r, x = f r ∧ P r) → ∃ rl : List α, xs = rl.map f ∧ ∀ r ∈ rl, P r
  | [], _ => ⟨[], rfl, fun r h => (List.not_mem_nil h).elim⟩
  | x :: xs, h => by
    obtain ⟨r, rfl, hr⟩ := h x List.mem_cons_self
    obtain ⟨rl, rfl, hrl⟩ := ex_map (f := f) (P := P) fun y hy => h y (List.mem_cons_of_mem _ hy)
    exact ⟨r :: rl, rfl, fun s hs => (List.mem_cons.mp hs).elim (fun e => e ▸ hr) (hrl s)⟩
/-- what is wished, kept as an instance, so that simp leaves it as it stands -/
class PP (α : Type) where
  run : α → Prop
class PP2 (α β : Type) where
  run : α → β → Prop
def hb {α : Type} [P : PP α] (a : α) : Prop := P.run a
def hq {α β : Type} [P : PP2 α β] (a : α) (b : β) : Prop := P.run a b
theorem hbi {α : Type} {P : PP α} {a : α} (h : P.run a) : @hb α P a := h
theorem hqi {α β : Type} {P : PP2 α β} {a : α} {b : β} (h : P.run a b) : @hq α β P a b := h
/-- a comprehension that draws -/
theorem lc_draw {own : List Nat} {tg : Tg} {f : M O} {St : Type} (E : St → Sl) (P : D → Prop) (ds : List D) (hs : ∀ d ∈ ds, ∀ s : St, ∃ e1, tg.go d (E s) = some e1 ∧ Ev (f e1) (fun o e3 => P o.d ∧ ∃ s', wipeE e3 own = E s') (fun _ _ => False)) (hl : ds.length < 10000000) (s : St) :
    ∃ xs s', lcL own tg cYes f ds [] (E s) = some (xs, E s') ∧ xs.length = ds.length ∧ ∀ x ∈ xs, P x := by
  obtain ⟨xs, e', h1, h2, h3, s', rfl⟩ := lcL_gen (own := own) (tg := tg) (t := cYes) (f := f) (fun _ e => ∃ s, e = E s) (fun _ _ x => P x) ds [] (E s) (by simpa using hl) ⟨s, rfl⟩ (by
    rintro i d e hd ⟨s, rfl⟩
    obtain ⟨e1, g1, g2⟩ := hs d (List.mem_of_getElem? hd) s
    obtain ⟨o, e3, g3, g4, s', g5⟩ := g2.get
    exact ⟨e1, e1, o, e3, g1, rfl, g3, g4, s', g5⟩)
  rw [List.nil_append] at h1
  refine ⟨xs, s', h1, h2, fun x hx => ?_⟩
  obtain ⟨i, hi⟩ := List.getElem?_of_mem hx
  have hlt : i < ds.length := by rw [← h2]; exact (List.getElem?_eq_some_iff.mp hi).1
  obtain ⟨y, hy, c⟩ := h3 i _ (List.getElem?_eq_getElem hlt)
  rw [hi] at hy
  cases hy
  exact c
/-! slices and places, by whole numbers from nought on -/
section
variable {α : Type} {xs : List α}
theorem cutD_lo (k : Nat) : cutD xs (some (k : Int)) none = xs.drop k := by
  unfold cutD
  rw [HT.sIx_none, HT.sIx_nat]
  by_cases h : k ≤ xs.length
  · rw [Nat.min_eq_left h, List.take_of_length_le (by rw [List.length_drop]; omega)]
  · rw [Nat.min_eq_right (by omega), List.drop_eq_nil_of_le (by omega), List.drop_eq_nil_of_le (by omega), List.take_nil]
theorem cutD_hi (k : Nat) : cutD xs none (some (k : Int)) = xs.take k := by
  unfold cutD
  rw [HT.sIx_none, HT.sIx_nat, List.drop_zero, Nat.sub_zero]
  by_cases h : k ≤ xs.length
  · rw [Nat.min_eq_left h]
  · rw [Nat.min_eq_right (by omega), List.take_of_length_le (by omega), List.take_of_length_le (by omega)]
theorem cutD_1 : cutD xs (some 1) none = xs.drop 1 := cutD_lo 1
theorem cutD_2 : cutD xs (some 2) none = xs.drop 2 := cutD_lo 2
theorem ixN_nat {n : Nat} {j : Int} (h0 : 0 ≤ j) (h1 : j < n) : ixN n j = some j.toNat := by unfold ixN; rw [if_pos h0, if_pos h1]
theorem atI_cn {i : Nat} : atI xs (i : Int) = xs[i]? := by
  by_cases h : i < xs.length
  · rw [atI_nat' (by omega) (by omega), Int.toNat_natCast]
  · rw [List.getElem?_eq_none (by omega)]
    unfold atI ixN
    rw [if_pos (by omega), if_neg (by omega)]; rfl
theorem atI_c0 {x : α} : atI (x :: xs) 0 = some x := atI_cn (i := 0)
theorem atI_c1 {x y : α} : atI (x :: y :: xs) 1 = some y := atI_cn (i := 1)
theorem atI_c2 {x y z : α} : atI (x :: y :: z :: xs) 2 = some z := atI_cn (i := 2)
theorem atI_c3 {x y z u : α} : atI (x :: y :: z :: u :: xs) 3 = some u := atI_cn (i := 3)
theorem atI_c4 {x y z u v : α} : atI (x :: y :: z :: u :: v :: xs) 4 = some v := atI_cn (i := 4)
theorem atI_c5 {x y z u v w : α} : atI (x :: y :: z :: u :: v :: w :: xs) 5 = some w := atI_cn (i := 5)
theorem eqv_iz {i : Int} {z : Str} : D.eqv (.int i) (.str z) = false := by simp [D.eqv, D.py, PyData.eqv]
theorem eqv_zi {i : Int} {z : Str} : D.eqv (.str z) (.int i) = false := by simp [D.eqv, D.py, PyData.eqv]
theorem gEq_iz {i : Int} {z : Str} (h : shp (.str z) = true) : gEq [.int i, .str z] = some (bO false) := by
  show (if (shp (.int i) && shp (.str z)) = true then some (bO (D.eqv (.int i) (.str z))) else none) = _
  rw [h, shp_i, eqv_iz]; rfl
theorem gEq_zi {i : Int} {z : Str} (h : shp (.str z) = true) : gEq [.str z, .int i] = some (bO false) := by
  show (if (shp (.str z) && shp (.int i)) = true then some (bO (D.eqv (.str z) (.int i))) else none) = _
  rw [h, shp_i, eqv_zi]; rfl
theorem gNe_iz {i : Int} {z : Str} (h : shp (.str z) = true) : gNe [.int i, .str z] = some (bO true) := by
  show (if (shp (.int i) && shp (.str z)) = true then some (bO (!D.eqv (.int i) (.str z))) else none) = _
  rw [h, shp_i, eqv_iz]; rfl
theorem gNe_zi {i : Int} {z : Str} (h : shp (.str z) = true) : gNe [.str z, .int i] = some (bO true) := by
  show (if (shp (.str z) && shp (.int i)) = true then some (bO (!D.eqv (.str z) (.int i))) else none) = _
  rw [h, shp_i, eqv_zi]; rfl
theorem shp_z {z : Str} (h : ∀ c ∈ zl z, c < 1114112) : shp (.str z) = true := (shp_str h).shp (by omega)
theorem truD_bl (b : Bool) : truD (.bl b) = some b := nr rfl
theorem truD_l (ds : List D) : truD (.lst ds) = some (!ds.isEmpty) := nr rfl
theorem truD_t (ds : List D) : truD (.tup ds) = some (!ds.isEmpty) := nr rfl
end
end Dn

namespace Dn
open PySem L2
open Evl (Ex)

/-! ## 34. max and min of two whole numbers -/
def gMax2 : List D → Option O
  | [.int i, .int j] => some (iO (if j > i then j else i))
  | _ => none
def gMin2 : List D → Option O
  | [.int i, .int j] => some (iO (if j < i then j else i))
  | _ => none
theorem RdL.two {K : PySem.W.Frag} {B H : Hp} {vs : List V} {d e : D} (h : RdL K B H vs [d, e]) : ∃ v w, vs = [v, w] ∧ Rd K B H v d ∧ Rd K B H w e := by
  cases h with
  | cons h1 h => cases h with
    | cons h2 h => cases h; exact ⟨_, _, rfl, h1, h2⟩
theorem n_max2 {K : PySem.W.Frag} : SndN K (fun xs H Q => ∃ i j, xs = [.int i, .int j] ∧ Q (.int (if j > i then j else i)) H) gMax2 := by
  intro B H vs ds o hx hr hg Q q
  unfold gMax2 at hg
  split at hg
  · obtain ⟨v, w, rfl, h1, h2⟩ := hr.two
    cases h1; cases h2
    injection hg with hg
    subst hg
    exact ⟨_, _, rfl, q.fr hx (.int _)⟩
  · cases hg
theorem n_min2 {K : PySem.W.Frag} : SndN K (fun xs H Q => ∃ i j, xs = [.int i, .int j] ∧ Q (.int (if j < i then j else i)) H) gMin2 := by
  intro B H vs ds o hx hr hg Q q
  unfold gMin2 at hg
  split at hg
  · obtain ⟨v, w, rfl, h1, h2⟩ := hr.two
    cases h1; cases h2
    injection hg with hg
    subst hg
    exact ⟨_, _, rfl, q.fr hx (.int _)⟩
  · cases hg
theorem gMax2_i {i j : Int} : gMax2 [.int i, .int j] = some (iO (if j > i then j else i)) := nr rfl
theorem gMin2_i {i j : Int} : gMin2 [.int i, .int j] = some (iO (if j < i then j else i)) := nr rfl
end Dn

namespace Dn
open PySem L2
open Evl (Ex)

/-! ## 35. A def that calls itself: by how deep it may go; a statement that is never reached -/
section
variable {P : Program} {w : World} {K : PySem.W.Frag} {mg : Str → Option Value} {base : Heap}
/-- as deep as nought: nothing is promised -/
theorem fn_none {k n : Nat} {f : Addr} {fd : FuncData} {ps : List Str} (hn : ps.length = n) : FnOk P w K mg base (L2.CX P w) k f fd ps (spD K mg n fun _ => none) :=
  ⟨fun vs H Q E h => h.1.trans hn.symm, fun A outer s H args us vs Q E _ _ _ _ h => by
    obtain ⟨_, B, os, S, _, z⟩ := h
    exact z.elim⟩
end
section
variable {X : Cx} {W : WX} {ks : List Nat} {st : Stmt}
theorem s_stuck : PS X st (tS X.K X.mg W ks M.stuck) := ⟨fun pins s σ H D I h => by
  obtain ⟨B, e, S, _, z⟩ := h
  exact z.elim⟩
end

/-! ## 36. str of a whole number, insert -/
def gStr1 : List D → Option O
  | [.int i] => if i.natAbs.log2 < 1920 then some (sO (toString i)) else none
  | _ => none
theorem n_str1 {K : PySem.W.Frag} : SndN K (fun xs H Q => ∃ i : Int, xs = [.int i] ∧ i.natAbs.log2 < 1920 ∧ Q (.str (toString i)) H) gStr1 := by
  intro B H vs ds o hx hr hg Q q
  unfold gStr1 at hg
  split at hg
  · split at hg
    · obtain ⟨v, rfl, h1⟩ := hr.one
      cases h1
      injection hg with hg
      subst hg
      exact ⟨_, rfl, by assumption, q.fr hx (.str _)⟩
    · cases hg
  · cases hg
/-- xs.insert(0, e) -/
def gIns0 (ds : List D) (d : D) : Option (D × List D) := if ds.length < sizeLine then some (.non, d :: ds) else none
def rIns0 : V → List V → Hp → VK → Prop := fun x vs H Q => ∃ (l : Addr) (xs : List V) (i : Int) (y : V), x = .ref l ∧ .int 0 :: vs = [.int i, y] ∧ H l = some (.lst xs) ∧ xs.length < sizeLine ∧ 0 ≤ i ∧ i < 2 ^ 63 ∧ Q .non (upd H l (.lst (xs.take i.toNat ++ [y] ++ xs.drop i.toNat)))
theorem u_ins0 {K : PySem.W.Frag} : Mu1 K rIns0 gIns0 := by
  intro B H l xs ds y d res ds' hx hl hr hd hg Q q
  unfold gIns0 at hg
  split at hg
  · rename_i hz
    cases hg
    refine ⟨l, xs, 0, y, rfl, rfl, hl, by rw [hr.length]; exact hz, by omega, by omega, q .non (y :: xs) (.cons hd hr) .non⟩
  · cases hg
theorem gIns0_q {ds : List D} {d : D} (h : ds.length < sizeLine) : gIns0 ds d = some (.non, d :: ds) := if_pos h
section
variable {X : Cx} {W : WX} {e : Expr} {f : M O} {i : Nat} {x : Str} {p apos pos p0 : Pos} {k0 : Nat}
theorem d_ins0 (hv : PE X (.Name x p) (tVar i)) (he : PE X e (tE X.K X.mg W f))
    (hbase : attributeBase (.Name x p) "insert" X.env (eval (.Name x p) X.env) = eval (.Name x p) X.env := by rfl)
    (hfew : ((backTo pos (starEach (.Constant (.int 0) k0 p0 :: [e]) X.env)).all (fun x => !x.1) && (backToKw pos (keywordEach [] X.env)).all (fun x => x.1.isSome)
      && decide ((.Constant (.int 0) k0 p0 :: [e]).length + ([] : List Keyword).length + (if ([] : List Keyword).isEmpty then 0 else 1) < 30)) = true := by rfl)
    (hline : (apos.endLine == pos.line) = true := by rfl) (hst : starEach (.Constant (.int 0) k0 p0 :: [e]) X.env = (false, eval (.Constant (.int 0) k0 p0) X.env) :: starEach [e] X.env := by rfl) (hst2 : starEach [e] X.env = (false, eval e X.env) :: starEach [] X.env := by rfl) (hpl : (backTo pos (starEach [e] X.env)).any (·.1) = false := by rfl) :
    PE X (.Call (.Attribute (.Name x p) "insert" apos) [.Constant (.int 0) k0 p0, e] [] pos) (tE X.K X.mg W (eMut1 gIns0 i f)) := pe_imp (pe_bm PySem.F.plainAttrs_list PySem.F.slot_list_insert PySem.F.type_list_insert mt_insert hv (pa_cons pe_int (pa_cons he pa_nil hst2) hst) hbase hfew hline hst hpl) fun σ H Q h => mut1_run u_ins0 h
end
/-! ## 37. A tuple of the module's, by its name -/
structure TupC (K : PySem.W.Frag) (mg : Str → Option Value) (x : Str) (ds : List D) : Prop where
  ex : ∃ (a : Addr) (o : Obj) (its : Array Value) (n : Nat) (vs : List V), mg x = some (.ref a) ∧ K.lookup a = some o ∧ o.cls = .type "tuple" ∧ o.data = .seq its n ∧ its.size ≤ sizeLine ∧ Vals vs its.toList ∧ ∀ B, RepL K B vs ds
theorem d_gt {X : Cx} {W : WX} {x : Str} {pos : Pos} {ds : List D} (hg : Gl X x) (h : TupC X.K X.mg x ds) (hdb : (x == ("__debug__" : Str)) = false := by decide) : PE X (.Name x pos) (tE X.K X.mg W (eC (.tup ds))) := by
  obtain ⟨a, o, its, n, vs, h1, h2, h3, h4, h5, h6, h7⟩ := h.ex
  exact d_c (v := .ref a) (pe_glob hg h1 rfl hdb) fun B => .tup (.inr ⟨o, its, n, h2, h3, h4, h5, h6⟩) (h7 B)
theorem gStr1_i {i : Int} (h : i.natAbs.log2 < 1920) : gStr1 [.int i] = some (sO (toString i)) := if_pos h
/-! ## 38. A comprehension, by what is made so far -/
theorem lc_acc_go {own : List Nat} {tg : Tg} {f : M O} (I : List D → Sl → Prop) : ∀ (ds acc : List D) (e : Sl), acc.length + ds.length < 10000000 →
    (∀ d ∈ ds, ∀ acc' e, I acc' e → ∃ e1, tg.go d e = some e1 ∧ Ev (f e1) (fun o e3 => I (acc' ++ [o.d]) (wipeE e3 own)) (fun _ _ => False)) → I acc e →
    ∃ xs e', lcL own tg cYes f ds acc e = some (acc ++ xs, e') ∧ xs.length = ds.length ∧ I (acc ++ xs) e'
  | [], acc, e, _, _, h0 => ⟨[], e, by simp [lcL], rfl, by rw [List.append_nil]; exact h0⟩
  | d :: ds, acc, e, hl, hs, h0 => by
    obtain ⟨e1, h1, h2⟩ := hs d List.mem_cons_self acc e h0
    obtain ⟨o, e3, h3, h5⟩ := h2.get
    have hz : acc.length < sizeLine := by rw [sizeLine_eq]; rw [List.length_cons] at hl; omega
    obtain ⟨xs, e', q1, q2, q3⟩ := lc_acc_go I ds (acc ++ [o.d]) (wipeE e3 own) (by rw [List.length_append]; simp only [List.length_cons, List.length_nil] at *; omega) (fun d' h => hs d' (List.mem_cons_of_mem _ h)) h5
    refine ⟨o.d :: xs, e', ?_, by rw [List.length_cons, List.length_cons, q2], by rw [List.append_assoc] at q3; exact q3⟩
    have h2 : cYes e1 = some (.ok true e1) := rfl
    simp only [lcL, h1, h2, h3, hz, if_true, q1, List.append_assoc, List.singleton_append]
theorem lc_acc {own : List Nat} {tg : Tg} {f : M O} (I : List D → Sl → Prop) (ds : List D) (e : Sl) (hl : ds.length < 10000000)
    (hs : ∀ d ∈ ds, ∀ acc' e, I acc' e → ∃ e1, tg.go d e = some e1 ∧ Ev (f e1) (fun o e3 => I (acc' ++ [o.d]) (wipeE e3 own)) (fun _ _ => False)) (h0 : I [] e) :
    ∃ xs e', lcL own tg cYes f ds [] e = some (xs, e') ∧ xs.length = ds.length ∧ I xs e' := by
  obtain ⟨xs, e', h1, h2, h3⟩ := lc_acc_go I ds [] e (by simpa using hl) hs h0
  exact ⟨xs, e', h1, h2, h3⟩
theorem lc_map_go {α : Type} {own : List Nat} {tg : Tg} {C : M O} {e : Sl} (f g : α → D) : ∀ (xs : List α) (acc : List D), acc.length + xs.length < 10000000 →
    (∀ x ∈ xs, ∃ e1, tg.go (f x) e = some e1 ∧ Ev (C e1) (fun o e3 => o.d = g x ∧ wipeE e3 own = e) (fun _ _ => False)) → lcL own tg cYes C (xs.map f) acc e = some (acc ++ xs.map g, e)
  | [], acc, _, _ => by simp [lcL]
  | x :: xs, acc, hl, hs => by
    obtain ⟨e1, h1, h2⟩ := hs x List.mem_cons_self
    obtain ⟨o, e3, h3, h4, h5⟩ := h2.get
    have hz : acc.length < sizeLine := by rw [sizeLine_eq]; rw [List.length_cons] at hl; omega
    have ih := lc_map_go f g xs (acc ++ [o.d]) (by rw [List.length_append]; simp only [List.length_cons, List.length_nil] at *; omega) (fun y hy => hs y (List.mem_cons_of_mem _ hy))
    have hy : cYes e1 = some (.ok true e1) := rfl
    rw [h4] at ih
    simp only [List.map_cons, lcL, h1, hy, h3, hz, if_true, h5, h4, ih, List.append_assoc, List.singleton_append]
/-- a comprehension that makes something of each item, and leaves the slots as they were -/
theorem lc_map {α : Type} {own : List Nat} {tg : Tg} {C : M O} {e : Sl} (f g : α → D) (xs : List α) (hl : xs.length < 10000000)
    (hs : ∀ x ∈ xs, ∃ e1, tg.go (f x) e = some e1 ∧ Ev (C e1) (fun o e3 => o.d = g x ∧ wipeE e3 own = e) (fun _ _ => False)) : lcL own tg cYes C (xs.map f) [] e = some (xs.map g, e) := by
  have := lc_map_go f g xs [] (by simpa using hl) hs
  simpa using this
theorem lc_filt_go {α : Type} {own : List Nat} {tg : Tg} {t : M Bool} {C : M O} {e : Sl} (f g : α → D) (p : α → Bool) : ∀ (xs : List α) (acc : List D), acc.length + xs.length < 10000000 →
    (∀ x ∈ xs, ∃ e1, tg.go (f x) e = some e1 ∧ Ev (t e1) (fun b e2 => b = p x ∧ if p x = true then Ev (C e2) (fun o e3 => o.d = g x ∧ wipeE e3 own = e) fun _ _ => False else wipeE e2 own = e) fun _ _ => False) → lcL own tg t C (xs.map f) acc e = some (acc ++ (xs.filter p).map g, e)
  | [], acc, _, _ => by simp [lcL]
  | x :: xs, acc, hl, hs => by
    obtain ⟨e1, h1, h2⟩ := hs x List.mem_cons_self
    obtain ⟨b, e2, h3, rfl, h4⟩ := h2.get
    have hz : acc.length < sizeLine := by rw [sizeLine_eq]; rw [List.length_cons] at hl; omega
    have hs' := fun y hy => hs y (List.mem_cons_of_mem _ hy)
    rw [List.length_cons] at hl
    cases hp : p x with
    | true =>
      rw [hp, if_pos rfl] at h4
      obtain ⟨o, e3, h5, h6, h7⟩ := h4.get
      have ih := lc_filt_go f g p xs (acc ++ [o.d]) (by rw [List.length_append]; simp only [List.length_cons, List.length_nil] at *; omega) hs'
      rw [h6] at ih
      rw [hp] at h3
      simp only [List.map_cons, lcL, h1, h3, h5, hz, if_true, h7, h6, ih, List.filter_cons, hp, List.append_assoc, List.singleton_append]
    | false =>
      rw [hp, if_neg (by decide)] at h4
      have ih := lc_filt_go f g p xs acc (by omega) hs'
      rw [hp] at h3
      simp only [List.map_cons, lcL, h1, h3, h4, ih, List.filter_cons, hp, Bool.false_eq_true, if_false]
theorem lc_filt {α : Type} {own : List Nat} {tg : Tg} {t : M Bool} {C : M O} {e : Sl} (f g : α → D) (p : α → Bool) (xs : List α) (hl : xs.length < 10000000)
    (hs : ∀ x ∈ xs, ∃ e1, tg.go (f x) e = some e1 ∧ Ev (t e1) (fun b e2 => b = p x ∧ if p x = true then Ev (C e2) (fun o e3 => o.d = g x ∧ wipeE e3 own = e) fun _ _ => False else wipeE e2 own = e) fun _ _ => False) : lcL own tg t C (xs.map f) [] e = some ((xs.filter p).map g, e) := by
  have := lc_filt_go f g p xs [] (by simpa using hl) hs
  simpa using this
theorem gSum_ints (ns : List Int) : gSum [.lst (ns.map .int)] = some (iO ns.sum) := by
  show (intsD (ns.map D.int)).map _ = _
  rw [intsD_int]; rfl
end Dn

namespace Dn
open PySem L2

/-! ## 39. == of what is plain -/
open Classical in
theorem gNe_pl {x y : D} (hx : x.pl = true) (hy : y.pl = true) (sx : shp x = true) (sy : shp y = true) : gNe [x, y] = some (bO (!decide (x = y))) := by
  have key : gNe [x, y] = (if (shp x && shp y) = true then some (bO (!D.eqv x y)) else none) ∨ (∃ i j, x = .int i ∧ y = .int j) ∨ (∃ i j, x = .str i ∧ y = .str j) ∨ (∃ i j, x = .bl i ∧ y = .bl j) := by
    cases x <;> cases y <;> first | exact .inl rfl | exact .inr (.inl ⟨_, _, rfl, rfl⟩) | exact .inr (.inr (.inl ⟨_, _, rfl, rfl⟩)) | exact .inr (.inr (.inr ⟨_, _, rfl, rfl⟩))
  have e := D.eqv_same hx hy
  rcases key with h | ⟨i, j, rfl, rfl⟩ | ⟨i, j, rfl, rfl⟩ | ⟨i, j, rfl, rfl⟩
  · rw [h, sx, sy]
    show some (bO (!D.eqv x y)) = _
    by_cases z : x = y
    · rw [e.mpr z, decide_eq_true z]
    · rw [decide_eq_false z, Bool.eq_false_iff.mpr fun w => z (e.mp w)]
  · rw [gNe_i]; congr 3; exact decide_eq_decide.mpr ⟨fun h => by rw [h], fun h => by injection h⟩
  · rw [gNe_z]; congr 3; exact decide_eq_decide.mpr ⟨fun h => by rw [h], fun h => by injection h⟩
  · cases hx
open Classical in
theorem gEq_pl {x y : D} (hx : x.pl = true) (hy : y.pl = true) (sx : shp x = true) (sy : shp y = true) : gEq [x, y] = some (bO (decide (x = y))) := by
  have key : gEq [x, y] = (if (shp x && shp y) = true then some (bO (D.eqv x y)) else none) ∨ (∃ i j, x = .int i ∧ y = .int j) ∨ (∃ i j, x = .str i ∧ y = .str j) ∨ (∃ i j, x = .bl i ∧ y = .bl j) := by
    cases x <;> cases y <;> first | exact .inl rfl | exact .inr (.inl ⟨_, _, rfl, rfl⟩) | exact .inr (.inr (.inl ⟨_, _, rfl, rfl⟩)) | exact .inr (.inr (.inr ⟨_, _, rfl, rfl⟩))
  have e := D.eqv_same hx hy
  rcases key with h | ⟨i, j, rfl, rfl⟩ | ⟨i, j, rfl, rfl⟩ | ⟨i, j, rfl, rfl⟩
  · rw [h, sx, sy]
    show some (bO (D.eqv x y)) = _
    by_cases z : x = y
    · rw [e.mpr z, decide_eq_true z]
    · rw [decide_eq_false z, Bool.eq_false_iff.mpr fun w => z (e.mp w)]
  · rw [gEq_i]; congr 2; exact decide_eq_decide.mpr ⟨fun h => by rw [h], fun h => by injection h⟩
  · rw [gEq_z]; congr 2; exact decide_eq_decide.mpr ⟨fun h => by rw [h], fun h => by injection h⟩
  · cases hx
theorem gEq_same {x : D} (hx : x.pl = true) (sx : shp x = true) : gEq [x, x] = some (bO true) := by classical rw [gEq_pl hx hx sx sx, decide_eq_true rfl]
theorem gEq_diff {x y : D} (hx : x.pl = true) (hy : y.pl = true) (sx : shp x = true) (sy : shp y = true) (h : x ≠ y) : gEq [x, y] = some (bO false) := by classical rw [gEq_pl hx hy sx sy, decide_eq_false h]
theorem gNe_same {x : D} (hx : x.pl = true) (sx : shp x = true) : gNe [x, x] = some (bO false) := by classical rw [gNe_pl hx hx sx sx, decide_eq_true rfl]; rfl
theorem gNe_diff {x y : D} (hx : x.pl = true) (hy : y.pl = true) (sx : shp x = true) (sy : shp y = true) (h : x ≠ y) : gNe [x, y] = some (bO true) := by classical rw [gNe_pl hx hy sx sy, decide_eq_false h]; rfl
end Dn

namespace Dn
open PySem L2
open PyProof.Rows (envOfC)
open Evl (Ex)
open ClX

/-! ## 39. The errors of the program: how they are made -/
/-- C's instances carry word and place -/
structure ErC (K : PySem.W.Frag) (C : Addr) : Prop where
  T : OexC K C
  nW : PySem.W.findIn K (.ref C) "word" = some none
  nP : PySem.W.findIn K (.ref C) "place" = some none
/-- behind the first class's __init__ -/
def afterI (a C : Addr) (w y : V) (H : Hp) (Q : VK) : Prop := ∀ dx, H dx = none → dx ≠ a → Q .non (upd (upd (upd H dx (exd dx [("word", w)])) a (exo a C (some dx))) dx (exd dx [("place", y), ("word", w)]))
def spT (K : PySem.W.Frag) : Sp := fun vs H Q E => ∃ (a C : Addr) (w y : V), vs = [.ref a, w, y] ∧ ErC K C ∧ H a = some (exo a C none) ∧ afterI a C w y H Q
def spB (K : PySem.W.Frag) (x : Str) : Sp := fun vs H Q E => ∃ (a C : Addr) (y : V), vs = [.ref a, y] ∧ ErC K C ∧ H a = some (exo a C none) ∧ afterI a C (.str x) y H Q
theorem init_T {K : PySem.W.Frag} {a C : Addr} {w y : V} {H : Hp} {D : Ends} (e : ErC K C) (ha : H a = some (exo a C none)) (h : ∀ dx, H dx = none → dx ≠ a → D.nx [some (.ref a), some w, some y] (upd (upd (upd H dx (exd dx [("word", w)])) a (exo a C (some dx))) dx (exd dx [("place", y), ("word", w)]))) :
    tSeq (tOst K "word" (tVar 0) (tVar 1)) (tOst K "place" (tVar 0) (tVar 2)) D [some (.ref a), some w, some y] H := by
  refine ⟨w, rfl, .ref a, rfl, a, C, rfl, e.T, e.nW, .inl ⟨ha, fun dx hd hn => ?_⟩⟩
  refine ⟨y, rfl, .ref a, rfl, a, C, rfl, e.T, e.nP, .inr ⟨dx, [("word", w)], upd_same, ?_, Nat.le_of_ble_eq_true rfl, h dx hd hn⟩⟩
  rw [upd_ne hn, upd_same]
section
variable {P : Program} {w : World} {K : PySem.W.Frag} {mg : Str → Option Value} {base : Heap}
theorem ok_initT {qual : Str} {st : Stmt} {f : Addr} {fd : FuncData} {k : Nat} (F : FunX K "__init__" qual st f fd) (Sc : FnScope ["self", "word", "place"] ["self", "word", "place"] (defScope st))
    (hb : ∀ (cdv : Value) (A : Around) (outer : List PySem.Env) (s : Shared) (H : Hp) (E : XK), PSs (cxOf (L2.CX P w) P w K mg base ["self", "word", "place"] qual (defScope st) f cdv A outer s H E) (defBody st) (tSeq (tOst K "word" (tVar 0) (tVar 1)) (tOst K "place" (tVar 0) (tVar 2)))) :
    FnOk P w K mg base (L2.CX P w) (k + 1) f fd ["self", "word", "place"] (spT K) := by
  refine F.okX Sc (fun vs H Q E h => ?_) (fun cdv A outer s H vs Q E hr h => ⟨_, hb cdv A outer s H E, ?_⟩)
  · obtain ⟨a, C, w, y, rfl, _⟩ := h; rfl
  · obtain ⟨a, C, w, y, rfl, e, ha, q⟩ := h
    exact init_T e ha fun dx h1 h2 => q dx h1 h2
theorem ok_initB {qual x : Str} {st : Stmt} {f : Addr} {fd : FuncData} {k : Nat} (F : FunX K "__init__" qual st f fd) (Sc : FnScope ["self", "place"] ["self", "place"] (defScope st))
    (hb : ∀ (cdv : Value) (A : Around) (outer : List PySem.Env) (s : Shared) (H : Hp) (E : XK), Room k (A.deeper (envOfC qual (defScope st) s.heap.objs.size f cdv)) →
      PSs (cxOf (L2.CX P w) P w K mg base ["self", "place"] qual (defScope st) f cdv A outer s H E) (defBody st) (tDrop (tCall (spT K) [] (fun _ _ _ => False) (tCons (tVar 0) (tCons (tC (.str x)) (tCons (tVar 1) tNil)))))) :
    FnOk P w K mg base (L2.CX P w) (k + 1) f fd ["self", "place"] (spB K x) := by
  refine F.okX Sc (fun vs H Q E h => ?_) (fun cdv A outer s H vs Q E hr h => ⟨_, hb cdv A outer s H E hr, ?_⟩)
  · obtain ⟨a, C, y, rfl, _⟩ := h; rfl
  · obtain ⟨a, C, y, rfl, e, ha, q⟩ := h
    exact ⟨.ref a, rfl, y, rfl, a, C, .str x, y, rfl, e, ha, fun dx h1 h2 => q dx h1 h2⟩
end
/-- C.m(e, ..), m a def of the class -/
theorem pe_cfun {X : Cx} {CX : CXT} {k : Nat} {C f : Addr} {mc : Value} {fd : FuncData} {ps : List Str} {sp : Sp} {E : XK} {x m : Str} {p1 p2 pos : Pos} {e : Expr} {es : List Expr} {t : TA} {pl : Sem Bool}
    (F : FnOk X.prog X.w X.K X.mg X.base CX k f fd ps sp) (hr : Room k X.A) (hg : Gl X x) (hm : X.mg x = some (.ref C)) (r : CRead X.K C mc) (cf : PySem.W.findCls X.K (.ref C) mc m = some (.val (.ref f))) (hk : PySem.W.keepIn X.K (.ref f) = true) (hb : Binds X.K fd ps []) (hx : Passes CX X E) (ha : PA X (e :: es) t)
    (hdb : (x == ("__debug__" : Str)) = false := by decide)
    (hc : eval (.Call (.Attribute (.Name x p1) m p2) (e :: es) [] pos) X.env = (do
      let ov ← eval (.Name x p1) X.env
      standAt p2.atName
      let (f, first) ← holding [ov] (getMethod ov m pl)
      callWith pos f first (backTo pos (starEach (e :: es) X.env)) (backToKw pos (keywordEach [] X.env))) := by rfl)
    (he : starEach (e :: es) X.env = (false, eval e X.env) :: starEach es X.env := by rfl) (hpl : (backTo pos (starEach es X.env)).any (·.1) = false := by rfl) :
    PE X (.Call (.Attribute (.Name x p1) m p2) (e :: es) [] pos) (tCall sp [] E t) := by
  refine ⟨fun pins s σ H Q I h => ?_⟩
  refine PySem.W.methodCall_KW (pl := pl) (ld_glob I hg hm ?_ hdb) hc
  refine PySem.W.method_cls I.kIn r.ga (getcval_ok I r (v := .ref f) ⟨cf, rfl⟩ fun s2 I2 => ?_)
  show wpAny _ _ (callWith pos (Value.ref f) [] (backTo pos (starEach (e :: es) X.env)) []) _ _ _
  refine PySem.W.callWith_K (h₀ := X.base) I.ok.mod.kin hk (thn (ha.run pos pins s2 σ H _ I2 h) fun us s1 ⟨vs, H1, I1, r, q⟩ => ⟨I1.kIn, ?_⟩) he hpl
  exact run_fn F hr hb .nil hx I1 r q

/-- an error class of the program, by its name -/
structure Er (P : Program) (w : World) (K : PySem.W.Frag) (mg : Str → Option Value) (base : Heap) (k : Nat) (x : Str) : Prop where
  ex : ∃ (C fI : Addr) (fd : FuncData), ErC K C ∧ PySem.W.findIn K (.ref C) "__init__" = some (some (.ref fI)) ∧ PySem.W.typeIn K (.ref fI) = some (.type "function") ∧ mg x = some (.ref C) ∧
    FnOk P w K mg base (L2.CX P w) k fI fd ["self", "place"] (spB K x) ∧ Binds K fd ["self", "place"] [] ∧ ∃ ds, Vals [.non] ds ∧ Binds K fd ["self", "place"] ds
/-- what it carries -/
def xfs (x : Str) (d : D) : List (Str × D) := [("place", d), ("word", .str x)]
/-- raise x(e) -/
def sRaise (x : Str) (f : M O) : M Fl := (items [f]).bind fun ds e => some (.ex ⟨x, xfs x (ds.headD .non)⟩ e)
/-- raise x() -/
def sRaise0 (x : Str) : M Fl := fun e => some (.ex ⟨x, xfs x .non⟩ e)
section
variable {X : Cx} {W : WX} {ks : List Nat}
theorem raise_end {C a : Addr} {x : Str} {y : V} {d : D} {H H1 B B1 : Hp} {σ : St} {S S1 : Nat → Addr → Prop} {e' : Sl} (ec : ErC X.K C) (hC : X.mg x = some (.ref C)) (r : Rp X.K B1 H1 σ e' S1) (f : Fr B H (tot S) B1 H1 (tot S1)) (ry : Rep X.K B1 y d) (ha : H1 a = none)
    (h : ExS X.K X.mg W ks B H S σ ⟨x, xfs x d⟩ e') :
    afterI a C (.str x) y (upd H1 a (exo a C none)) fun v H2 => v = .non ∧ ∃ (d : Addr) (fs : List (Str × V)), H2 a = some (exo a C (some d)) ∧ H2 d = some (exd d fs) ∧ H1 d = none ∧ W (.ref C) (some d) σ (upd (del H2 a) d (.xd fs)) := by
  intro dx hd hn
  have hd1 : H1 dx = none := by rwa [upd_ne hn] at hd
  refine ⟨rfl, dx, _, by rw [upd_ne (Ne.symm hn), upd_same], upd_same, hd1, ?_⟩
  have he : ∀ o u1 u2 u3 u4 : HO, upd (del (upd (upd (upd (upd H1 a u1) dx u2) a u3) dx u4) a) dx o = upd H1 dx o := fun o u1 u2 u3 u4 => by
    funext b
    by_cases hb : b = dx
    · subst hb; rw [upd_same, upd_same]
    · rw [upd_ne hb, upd_ne hb]
      by_cases hba : b = a
      · subst hba; rw [del_same, ha]
      · rw [del_ne hba, upd_ne hb, upd_ne hba, upd_ne hb, upd_ne hba]
  rw [he]
  have g := Gr.own r.ex hd1 (.xd [("place", y), ("word", .str x)])
  exact h C dx _ σ B1 _ S1 hC (r.grow g) upd_same (.cons ⟨rfl, ry⟩ (.cons ⟨rfl, .str x⟩ .nil)) (f.back hd1) (Kp.refl _ _) (f.trans (g.fr _))
theorem s_raise {x : Str} {k j : Nat} {e : Expr} {f : M O} {p pos pos' : Pos} (E : Er X.prog X.w X.K X.mg X.base k x) (hr : Room j X.A) (tk : Takes X W) (he : PE X e (tE X.K X.mg W f)) (hk : k + 1 ≤ j := by decide) (hc : X.calm = true := by rfl) (hg : Gl X x := by rfl)
    (hdb : (x == ("__debug__" : Str)) = false := by decide) (hs : starEach [e] X.env = (false, eval e X.env) :: starEach [] X.env := by rfl) (hpl : (backTo pos (starEach [] X.env)).any (·.1) = false := by rfl) :
    PS X (.Raise (some (.Call (.Name x p) [e] [] pos)) none pos') (tS X.K X.mg W ks (sRaise x f)) := by
  obtain ⟨C, fI, fd, ec, iC, tI, hC, F, b0, _⟩ := E.ex
  refine ps_imp (ps_raise hc tk (pmk_oex (ds := []) (dvs := []) ec.T iC tI F (hr.mono hk) b0 .nil (passes_call tk fun _ _ _ _ z => z.elim) hg hC (is_c he is_n hs) hdb hs hpl)) fun D σ H h => ?_
  obtain ⟨B, e0, S, r, h⟩ := h
  refine items_run [f] _ r ((post_len h.bind).imp (fun ds e' h vs B1 H1 S1 r1 rl f1 => ?_) fun _ _ z => ExS.toE z)
  obtain ⟨h, hl⟩ := h
  match ds, rl, hl with
  | [d], .cons ry .nil, _ =>
    refine ⟨by simp, fun a ha => ⟨a, C, _, rfl, ec, upd_same, raise_end ec hC r1 f1 ry ha h⟩⟩
theorem tMk0 : True := trivial
theorem pmk_oex0 {CX : CXT} {x : Str} {p pos : Pos} {C fI : Addr} {k : Nat} {fd : FuncData} {ps : List Str} {sp : Sp} {ds : List Value} {dvs : List V} (T : OexC X.K C) (iC : PySem.W.findIn X.K (.ref C) "__init__" = some (some (.ref fI))) (tI : PySem.W.typeIn X.K (.ref fI) = some (.type "function"))
    (F1 : FnOk X.prog X.w X.K X.mg X.base CX k fI fd ps sp) (hr : Room (k + 1) X.A) (hb : Binds X.K fd ps ds) (hd : Vals dvs ds) (hx : Passes CX X (fun _ _ _ => False)) (hg : Gl X x) (hm : X.mg x = some (.ref C))
    (hdb : (x == ("__debug__" : Str)) = false := by decide) :
    PMk X (.Call (.Name x p) [] [] pos) (tMkO C sp dvs tNil) := by
  intro pins s σ H Q I h
  obtain ⟨nm, q, N, bs, bm, sn, sub, ab, col, dd, k0, k1, k2, k3, k5, hC, hbm⟩ := T.cls
  refine wpAny_Call_Name_kw (ld_glob I hg hm ?_ hdb)
  refine PySem.W.callWith_K0 I.kIn T.kC ?_
  have h' : ([] : List V).length ≤ 1000 ∧ ∀ a, H a = none → sp (.ref a :: ([] ++ dvs)) (upd H a (exo a C none))
    (fun v H2 => v = .non ∧ ∃ (d : Addr) (fs : List (Str × V)), H2 a = some (exo a C (some d)) ∧ H2 d = some (exd d fs) ∧ H d = none ∧ Q (.ref C) (some d) (upd (del H2 a) d (.xd fs))) (fun _ _ _ => False) := h
  obtain ⟨_, q1⟩ := h'
  show wpAny _ _ (call (.ref C) []) _ _ _
  obtain ⟨hp, g, dr, tk, os⟩ := s
  have hsz : hp.objs.size ≤ hp.objs.size + 1 := Nat.le_succ _
  have hn : H (hp.objs.size + 1) = none := I.hok.fresh hsz
  have hq := q1 (hp.objs.size + 1) hn
  have kk : ∀ b o, hp.get? b = some o → ((hp.push (PySem.W.kdv_tup [])).push (PySem.HandSPX.excO C hp.objs.size)).get? b = some o := fun b o e => Heap.get?_push_of_some _ (Heap.get?_push_of_some _ e)
  have hget : ((hp.push (PySem.W.kdv_tup [])).push (PySem.HandSPX.excO C hp.objs.size)).get? (hp.objs.size + 1) = some (PySem.HandSPX.excO C hp.objs.size) := by heap_get
  have I2 : Inv X pins σ (upd H (hp.objs.size + 1) (exo (hp.objs.size + 1) C none)) ⟨(hp.push (PySem.W.kdv_tup [])).push (PySem.HandSPX.excO C hp.objs.size), g, dr, tk, os⟩ :=
    I.laid (t' := tk) (a := hp.objs.size + 1) (o := exo (hp.objs.size + 1) C none) (h' := (hp.push (PySem.W.kdv_tup [])).push (PySem.HandSPX.excO C hp.objs.size)) kk hsz (exo_ok hget)
  have r2 : Vals (V.ref (hp.objs.size + 1) :: ([] ++ dvs)) (Value.ref (hp.objs.size + 1) :: ([] ++ ds)) := .cons rfl hd
  have hl : (Value.ref (hp.objs.size + 1) :: ([] : List Value) ++ ds).length = ps.length := by
    have e := r2.length
    rw [F1.len _ _ _ _ hq] at e
    exact e.symm
  refine wpAny_call (PySem.HandSPX.call_own F.excBase_ValueError (fun Y => PySem.HandSPX.refsVE_contains Y bm hbm) (I.kIn _ _ hC) (PySem.W.looks_findIn I.kIn iC) (fun self => PySem.W.bind_fn I.kIn self tI) (by rw [sizeLine_eq]; simp)
    (codeAny_mono (F1.run _ X.stack _ _ ⟨Value.ref (hp.objs.size + 1) :: [], []⟩ (Value.ref (hp.objs.size + 1) :: ([] ++ ds)) _ _ (fun _ _ _ => False) (hr.make C [] []) (I2.env0.make C [] []) (show BindsTo _ fd ⟨Value.ref (hp.objs.size + 1) :: [], []⟩ (ps.zip (Value.ref (hp.objs.size + 1) :: ([] ++ ds))) from hb _ [Value.ref (hp.objs.size + 1)] I2.kIn hl) r2 hq) fun r s' hq' => ?_))
  cases r with
  | error er => exact hx pins σ _ _ er s' I2 hq'
  | ok fl =>
    cases fl with
    | ret u =>
      obtain ⟨v, H2, os2, bare2, un2, hok2, rv, ev, d, fs, ea, ed, hd1, q2⟩ := hq'
      subst ev
      obtain ⟨h2, g2, d2, t2, os'⟩ := s'
      exact ⟨rv, mk_end (raises_own T.exC T.tyC) I hsz kk un2 hok2 os2 bare2 ea ed hd1 q2⟩
    | next => exact False.elim hq'
    | brk => exact False.elim hq'
    | cont => exact False.elim hq'
theorem s_raise0 {x : Str} {k j : Nat} {p pos pos' : Pos} (E : Er X.prog X.w X.K X.mg X.base k x) (hr : Room j X.A) (tk : Takes X W) (hk : k + 1 ≤ j := by decide) (hc : X.calm = true := by rfl) (hg : Gl X x := by rfl)
    (hdb : (x == ("__debug__" : Str)) = false := by decide) :
    PS X (.Raise (some (.Call (.Name x p) [] [] pos)) none pos') (tS X.K X.mg W ks (sRaise0 x)) := by
  obtain ⟨C, fI, fd, ec, iC, tI, hC, F, _, ds, vd, b0⟩ := E.ex
  refine ps_imp (ps_raise hc tk (pmk_oex0 (ds := ds) (dvs := [.non]) ec.T iC tI F (hr.mono hk) b0 vd (passes_call tk fun _ _ _ _ z => z.elim) hg hC hdb)) fun D σ H h => ?_
  obtain ⟨B, e0, S, r, h⟩ := h
  exact ⟨by simp, fun a ha => ⟨a, C, .non, rfl, ec, upd_same, raise_end ec hC r (Fr.refl _ _ _) .non ha h⟩⟩
end
end Dn

namespace Dn
open PySem L2
open Evl (Ex)

/-! ## 40. try .. except .. as .. -/
/-- behind a clause's suite: its name is gone; a suite that raises isn't covered -/
def wipeR (i : Nat) : Option (Ro Fl) → Option (Ro Fl)
  | some (.ok fl e) => some (.ok fl (e.set i none))
  | _ => none
/-- what a clause's suite gives, wherever the error stands -/
def Suits (i : Nat) (h : Addr → Addr → Exn → M Fl) (x : Exn) (e : Sl) (r : Ro Fl) : Prop := ∀ a d, wipeR i (h a d x (e.set i (some (.exn a d x)))) = some r
open Classical in
noncomputable def sTry (c : Str → Option Bool) (i : Nat) (body : M Fl) (h : Addr → Addr → Exn → M Fl) : M Fl := fun e => match body e with
  | some (.ex x e') => match c x.cls with
    | some true => if hh : ∃ r, Suits i h x e' r then some hh.choose else none
    | some false => some (.ex x e')
    | none => none
  | r => r
section
variable {K : PySem.W.Frag} {mg : Str → Option Value} {W : WX} {B B' H H' : Hp} {v x y : V} {o : O} {d : D} {σ σ' : St} {e e' : Sl} {S S' : Nat → Addr → Prop} {T T' : Addr → Prop} {ks : List Nat}
/-- the slots without what isn't theirs -/
theorem Rp.less (h : Rp K B H σ e S) {d : Addr} {fs : List (Str × V)} (hd : H d = some (.xd fs)) : Rp K B H σ e (fun j a => S j a ∧ a ≠ d) := by
  refine ⟨h.len, h.ex, fun i o ho => ?_, fun i j a h1 h2 => h.dis i j a h1.1 h2.1, fun i a h1 => h.own i a h1.1⟩
  obtain ⟨v, h1, h2⟩ := h.rep i o ho
  refine ⟨v, h1, h2.iff fun a => ⟨fun z => ⟨z, fun q => ?_⟩, fun z => z.1⟩⟩
  subst q
  cases o with
  | fr _ => exact h2.2 _ z
  | lst ds =>
    obtain ⟨p, xs, e, hp, hr, hs⟩ := h2
    rw [(hs _).mp z, hp] at hd; cases hd
  | dct kvs =>
    obtain ⟨p, xs, e, hp, hk, hr, hs⟩ := h2
    rw [(hs _).mp z, hp] at hd; cases hd
  | ins c ns xs =>
    obtain ⟨p, C, dx, fs, e, hp, hc, hk, hr, hs⟩ := h2
    rw [(hs _).mp z, hp] at hd; cases hd
  | exn _ _ _ => exact h2.2.2 _ z
/-- slot i emptied on both sides -/
theorem Rp.gone (h : Rp K B H σ e S) (i : Nat) : Rp K B H (σ.set i none) (e.set i none) (fun j => if j = i then noS else S j) := by
  have f := h.forget i
  refine ⟨by rw [List.length_set, List.length_set]; exact h.len, f.ex, fun j o ho => ?_, f.dis, f.own⟩
  obtain ⟨w, h1, h2⟩ := f.rep j o ho
  by_cases hj : j = i
  · subst hj
    by_cases hl : j < e.length
    · rw [List.getElem?_set_self hl] at ho; cases ho
    · rw [List.getElem?_eq_none (by rw [List.length_set]; omega)] at ho; cases ho
  · exact ⟨w, by rw [List.getElem?_set_ne (Ne.symm hj)]; exact h1, h2⟩
theorem Vl.gone (h : Vl K B H σ e S v o T) (i : Nat) : Vl K B H (σ.set i none) (e.set i none) (fun j => if j = i then noS else S j) v o T :=
  ⟨h.rp.gone i, h.ro, h.own, fun a ha z => h.dj a ha (tot_forget z)⟩
end
section
variable {X : Cx} {W : WX} {ks : List Nat} {cv : Value} {c : Str → Option Bool} {i : Nat} {x n : Str} {body suite : List Stmt} {b₀ : Stmt} {np pos pos' : Pos} {gb : M Fl} {h : Addr → Addr → Exn → M Fl}
theorem s_try (hN : X.N.Nodup) (hi : X.N[i]? = some n) (hc : Names X x cv) (tk : Takes X W) (ht : ∀ y b C, c y = some b → X.mg y = some (.ref C) → PySem.W.exmOne X.K (.ref C) cv = some b)
    (hb : ∀ (W : WX) (pn : List (Addr × Obj)) (xe : Value → Shared → Prop), Takes (X.tr pn xe) W → PassesOwn (model X.prog X.w) X.A X.env xe → PSs (X.tr pn xe) body (tS X.K X.mg W ks gb))
    (hsu : ∀ (a : Addr) (oe : Obj) (C dd : Addr) (y : Exn) (pn : List (Addr × Obj)), X.mg y.cls = some (.ref C) → Zc (.ref C) (some dd) oe → (∃ vs, oe.data = .fields vs) →
      PSs (X.suite a ((a, oe) :: pn)) (b₀ :: suite) (tS X.K X.mg (fun _ _ _ _ => False) ks (h a dd y)))
    (hk : i ∉ ks := by decide) (hs : X.stack = X.env :: X.outer := by rfl) (hf : X.env.frame = some X.env.locals := by rfl) (hln : X.env.kindOf n = some .local := by rfl) :
    PS X (.Try body [.ExceptHandler (some (.Name x np)) (some n) (b₀ :: suite) pos'] [] [] pos) (tS X.K X.mg W ks (sTry c i gb h)) := by
  refine ps_imp (ps_try_as (c := cv) (Wout := W) (tb := fun W => tS X.K X.mg W ks gb)
    (ts := fun a cls d D σ H => ∃ (C dd : Addr) (y : Exn), cls = .ref C ∧ d = some dd ∧ X.mg y.cls = some (.ref C) ∧ tS X.K X.mg (fun _ _ _ _ => False) ks (h a dd y) D σ H)
    hs hf hN hi hln hc tk hb (fun a oe cls d pn hz hv => ⟨fun pins s σ H D I q => ?_⟩)) fun D σ H q => ?_
  · obtain ⟨C, dd, y, rfl, rfl, hC, q⟩ := q
    exact (hsu a oe C dd y pn hC hz hv).run pins s σ H D I q
  · obtain ⟨B, e, S, r, q⟩ := q
    refine ⟨B, e, S, r, ?_⟩
    change Post (sTry c i gb h e) (Nd X.K D ks B H S σ) (ExS X.K X.mg W ks B H S σ) at q
    change Post (gb e) (Nd X.K D ks B H S σ) (ExS X.K X.mg _ ks B H S σ)
    unfold sTry at q
    cases hg : gb e with
    | none => rw [hg] at q; exact q.elim
    | some ro =>
      rw [hg] at q
      cases ro with
      | ok fl e' => exact q
      | ex y e' =>
        intro C d fs σ' B' H' S' hC r' hd hx hn k' f'
        dsimp only at q
        cases hcy : c y.cls with
        | none => rw [hcy] at q; exact q.elim
        | some b =>
          rw [hcy] at q
          cases b with
          | false =>
            refine ⟨false, ht _ _ _ hcy hC, fun z => (nomatch z), fun _ => ?_⟩
            exact (show ExS X.K X.mg W ks B H S σ y e' from q) C d fs σ' B' H' S' hC r' hd hx hn k' f'
          | true =>
            refine ⟨true, ht _ _ _ hcy hC, fun _ a ha => ⟨C, d, y, rfl, rfl, hC, ?_⟩, fun z => (nomatch z)⟩
            dsimp only at q
            by_cases hh : ∃ r, Suits i h y e' r
            · rw [dif_pos hh] at q
              have sp := hh.choose_spec
              generalize hh.choose = rr at q sp
              have sp2 := sp a d
              have hB : Ex B' (upd B' d (.xd fs)) := fun b u z => by
                by_cases hb : b = d
                · subst hb; rw [upd_same]; exact (r'.ex _ _ z).symm.trans hd |>.symm ▸ rfl
                · rw [upd_ne hb]; exact z
              have hH : Ex (upd B' d (.xd fs)) H' := fun b u z => by
                by_cases hb : b = d
                · subst hb; rw [upd_same] at z; cases z; exact hd
                · rw [upd_ne hb] at z; exact r'.ex _ _ z
              have r1 : Rp X.K (upd B' d (.xd fs)) H' σ' e' (fun j a => S' j a ∧ a ≠ d) := (r'.less hd).bgrow hB hH fun j b z => by
                rw [upd_ne z.2]; exact (r'.own j b z.1).1
              have vl : Vl X.K (upd B' d (.xd fs)) H' σ' e' (fun j a => S' j a ∧ a ≠ d) (.ref a) (.exn a d y) noS :=
                ⟨r1, ⟨rfl, ⟨fs, upd_same, hx.mono hB⟩, fun _ z => z⟩, own_no, fun _ z => z.elim⟩
              have f2 : Fr B H (tot S) (upd B' d (.xd fs)) H' (tot (fun j => if j = i then (if i < e'.length then noS else noS) else fun a => S' j a ∧ a ≠ d)) := by
                refine ⟨f'.b.trans hB, f'.k, fun b z => f'.n b ?_, fun b u z => ?_, f'.a⟩
                · rcases tot_set z with z | ⟨j, z⟩
                  · exact z.elim
                  · exact ⟨j, z.1⟩
                · by_cases hb : b = d
                  · subst hb; exact .inr (.inr hn)
                  · rw [upd_ne hb] at z; exact f'.c _ _ z
              have k2 : Kp ks σ (σ'.set i (some (.ref a))) := k'.trans (Kp.set hk)
              refine ⟨_, _, _, vl.set i, ?_⟩
              change Post (h a d y (e'.set i (some (.exn a d y)))) _ _
              cases hq : h a d y (e'.set i (some (.exn a d y))) with
              | none => rw [hq] at sp2; cases sp2
              | some ro2 =>
                rw [hq] at sp2
                cases ro2 with
                | ex _ _ => cases sp2
                | ok fl e3 =>
                  cases sp2
                  have q' : Nd X.K D ks B H S σ fl (e3.set i none) := q
                  cases fl with
                  | next => exact fun σ4 B4 H4 S4 r4 k4 f4 => q' (σ4.set i none) B4 H4 _ (r4.gone i) ((k2.trans k4).trans (Kp.set hk)) ((f2.trans f4).imp (fun _ z => z) fun _ z => tot_forget z)
                  | brk => exact fun σ4 B4 H4 S4 r4 k4 f4 => q' (σ4.set i none) B4 H4 _ (r4.gone i) ((k2.trans k4).trans (Kp.set hk)) ((f2.trans f4).imp (fun _ z => z) fun _ z => tot_forget z)
                  | cnt => exact fun σ4 B4 H4 S4 r4 k4 f4 => q' (σ4.set i none) B4 H4 _ (r4.gone i) ((k2.trans k4).trans (Kp.set hk)) ((f2.trans f4).imp (fun _ z => z) fun _ z => tot_forget z)
                  | ret o => exact fun v σ4 B4 H4 S4 T vl4 k4 f4 => q' v (σ4.set i none) B4 H4 _ T (vl4.gone i) ((k2.trans k4).trans (Kp.set hk)) ((f2.trans f4).imp (fun _ z => z) fun _ z => z.elim .inl fun z => .inr (tot_forget z))
            · rw [dif_neg hh] at q; exact q.elim
end

/-! ## 41. What a clause's suite asks of its error -/
/-- y.word, y.place: cs the classes that are known -/
def eXf (cs : List Str) (a d : Addr) (y : Exn) (i : Nat) (f : Str) : M O := fun e => if y.cls ∈ cs then match e[i]? with
  | some (some (.exn a' d' z)) => if a' = a ∧ d' = d then (z.fs.lookup f).map fun u => .ok (.fr u) e else none
  | _ => none
  else none
/-- isinstance(y, t) -/
def eXi (t : Str → Option Bool) (a d : Addr) (y : Exn) (i : Nat) : M O := fun e => match e[i]? with
  | some (some (.exn a' d' z)) => if a' = a ∧ d' = d then (t y.cls).map fun b => .ok (bO b) e else none
  | _ => none
/-- what the written part says of the classes cs -/
structure XfT (K : PySem.W.Frag) (mg : Str → Option Value) (cs : List Str) : Prop where
  of : ∀ y ∈ cs, ∀ C, mg y = some (.ref C) → XfC K C ∧ PySem.W.findIn K (.ref C) "word" = some none ∧ PySem.W.findIn K (.ref C) "place" = some none
theorem xf_lookup {K : PySem.W.Frag} {B : Hp} {f : Str} : ∀ {fs : List (Str × V)} {gs : List (Str × D)} {d : D}, XF K B fs gs → gs.lookup f = some d → ∃ v, fs.lookup f = some v ∧ Rep K B v d
  | _, _, _, .nil, h => by cases h
  | p :: fs, q :: gs, d, .cons hpq hr, h => by
    obtain ⟨a, v⟩ := p
    obtain ⟨b, u⟩ := q
    obtain ⟨e, r⟩ := hpq
    dsimp only at e r
    subst e
    rw [List.lookup_cons] at h ⊢
    split at h
    · cases h; exact ⟨v, rfl, r⟩
    · exact xf_lookup hr h
section
variable {X : Cx} {W : WX} {a C dd : Addr} {oe : Obj} {pn : List (Addr × Obj)} {y : Exn} {i : Nat} {n : Str} {pos p p1 p2 : Pos} {cs : List Str}
theorem d_xf {f : Str} (T : XfT X.K X.mg cs) (hf' : f = "word" ∨ f = "place") (hC : X.mg y.cls = some (.ref C)) (hz : Zc (.ref C) (some dd) oe) (hf : ∃ vs, oe.data = .fields vs) (hv : PE (X.suite a ((a, oe) :: pn)) (.Name n p) (tVar i))
    (hb : attributeBase (.Name n p) f X.env (eval (.Name n p) X.env) = eval (.Name n p) X.env := by rfl) :
    PE (X.suite a ((a, oe) :: pn)) (.Attribute (.Name n p) f pos) (tE X.K X.mg W (eXf cs a dd y i f)) := by
  refine ⟨fun pins s σ H Q I h => ?_⟩
  obtain ⟨B, e, S, r, h⟩ := h
  unfold eXf at h
  by_cases hy : y.cls ∈ cs
  · rw [if_pos hy] at h
    obtain ⟨xc, nw, np⟩ := T.of _ hy _ hC
    have hno : PySem.W.findIn X.K (.ref C) f = some none := by
      rcases hf' with rfl | rfl
      · exact nw
      · exact np
    refine (pe_xf xc hno hz hf hv hb).run pins s σ H Q I ?_
    split at h
    · rename_i a' d' z hz'
      split at h
      · rename_i had
        obtain ⟨rfl, rfl⟩ := had
        cases hl : z.fs.lookup f with
        | none => rw [hl] at h; exact h.elim
        | some u =>
          rw [hl] at h
          obtain ⟨v, hv', rv, ⟨fs, hd, hx⟩, _⟩ := r.rep i _ hz'
          obtain ⟨w, lw, rw'⟩ := xf_lookup hx hl
          subst rv
          have h' : ∀ v B' H' S' T, Vl X.K B' H' σ e S' v (.fr u) T → Fr B H (tot S) B' H' (fun a => T a ∨ tot S' a) → Q v H' := h
          exact ⟨_, hv', rfl, rfl, d', fs, w, rfl, r.ex _ _ hd, lw, h' w B H S noS (.fr r rw') ((Fr.refl _ _ _).imp (fun _ z => z) fun a z => z.elim (fun z => z.elim) id)⟩
      · exact h.elim
    · exact h.elim
  · rw [if_neg hy] at h; exact h.elim
/-- what isinstance asks of the classes: cv stands for the class t asked for -/
structure XiT (K : PySem.W.Frag) (mg : Str → Option Value) (t : Str → Option Bool) (cv : Value) : Prop where
  of : ∀ y b, t y = some b → ∀ C, mg y = some (.ref C) → ExcC K C ∧ PySem.W.kitOne K (.ref C) cv = some b
theorem call_isX {D d : Addr} {gt : Option Value} (E : ExcC X.K D) (hz : Zc (.ref D) (some d) oe) (hf : ∃ vs, oe.data = .fields vs) :
    CallR (X.suite a ((a, oe) :: pn)) (.builtin "isinstance") (fun xs H Q => (∃ fs, H d = some (.xd fs)) ∧ rIsE X.K D a xs H Q) := by
  intro pins s σ H xs us Q I r h
  obtain ⟨⟨fs, hd⟩, c, cv, b, rfl, hcv, e, q⟩ := h
  cases r with
  | cons rx rr =>
    cases rr with
    | cons rt rr =>
      cases rr
      cases rx
      have ec := hcv _ rt
      subst ec
      obtain ⟨hget, _⟩ := I.pin (a, oe) (List.mem_append.mpr (.inl List.mem_cons_self))
      obtain ⟨vs, hv⟩ := hf
      have hx : ObjOk X.prog X.w H s.heap d (.xd fs) := I.hok d _ hd
      obtain ⟨mA, hns, hr⟩ := hx
      obtain ⟨od, ho, hl⟩ := lookIn_ns hns
      have J : PySem.W.InstAt s.heap a oe D (some od) := ⟨hget, hz.1, by unfold PySem.W.notCls; rw [hv] <;> rfl, by rw [hz.2]; exact ho⟩
      have hcl : (PySem.W.clsIn X.K D).isSome = true := by obtain ⟨cd, hc, _⟩ := PySem.W.any_some E.hd; rw [hc]; rfl
      exact PySem.W.kia_one (PySem.W.kitx_exc hcl E.hg E.hk E.hs E.ha E.hn E.ht E.hm) I.kIn J e (fun z => nomatch z) fun tk => ⟨.bl b, H, I.kept (t' := tk) fun _ _ z => z, rfl, q⟩
theorem d_xi {t : Str → Option Bool} {cv : Value} {c : V} {x : Str} (T : XiT X.K X.mg t cv) (hC : X.mg y.cls = some (.ref C)) (hz : Zc (.ref C) (some dd) oe) (hf : ∃ vs, oe.data = .fields vs) (hv : PE (X.suite a ((a, oe) :: pn)) (.Name n p) (tVar i))
    (hg : Gl X "isinstance") (hm : X.mg "isinstance" = none) (hvi : bootBuiltins "isinstance" = some (.builtin "isinstance")) (hcl : PE (X.suite a ((a, oe) :: pn)) (.Name x p2) (tC c)) (hcv : ∀ u, RelV c u → u = cv)
    (hs1 : starEach (.Name n p :: [.Name x p2]) X.env = (false, eval (.Name n p) X.env) :: starEach [.Name x p2] X.env := by rfl) (hs2 : starEach (.Name x p2 :: []) X.env = (false, eval (.Name x p2) X.env) :: starEach [] X.env := by rfl)
    (hpl : (backTo pos (starEach [.Name x p2] X.env)).any (·.1) = false := by rfl) : PE (X.suite a ((a, oe) :: pn)) (.Call (.Name "isinstance" p1) [.Name n p, .Name x p2] [] pos) (tE X.K X.mg W (eXi t a dd y i)) := by
  refine ⟨fun pins s σ H Q I h => ?_⟩
  obtain ⟨B, e, S, r, h⟩ := h
  unfold eXi at h
  split at h
  · rename_i a' d' z hz'
    split at h
    · rename_i had
      obtain ⟨rfl, rfl⟩ := had
      cases hl : t y.cls with
      | none => rw [hl] at h; exact h.elim
      | some b =>
        rw [hl] at h
        obtain ⟨E, hk⟩ := T.of _ _ hl _ hC
        obtain ⟨v, hv', rv, ⟨fs, hd, hx⟩, _⟩ := r.rep i _ hz'
        subst rv
        have h' : ∀ v B' H' S' T, Vl X.K B' H' σ e S' v (bO b) T → Fr B H (tot S) B' H' (fun a => T a ∨ tot S' a) → Q v H' := h
        refine (pe_callB (call_isX (gt := none) E hz hf) hg hm hvi (pa_cons hv (pa_cons hcl pa_nil hs2) hs1) (by decide) (by decide) hs1 hpl).run pins s σ H Q I ?_
        exact ⟨_, hv', ⟨fs, r.ex _ _ hd⟩, c, cv, b, rfl, hcv, hk, h' _ B H S noS (.fr r (.bl b)) ((Fr.refl _ _ _).imp (fun _ z => z) fun a z => z.elim (fun z => z.elim) id)⟩
    · exact h.elim
  · exact h.elim
end
end Dn

namespace Dn
open PySem L2
open PyProof.Rows (envOfC)
open Evl (Ex)
open ClX

/-! ## 42. Classes of errors by tables, as the walk's text has them -/
def clsB : Stmt → List Stmt
  | .ClassDef (body := b) .. => b
  | _ => []
/-- the table of a class: which classes are under it -/
def isaL (l : List (Str × Bool)) : Str → Option Bool := fun y => l.lookup y
theorem isa_all {P : Str → Bool → Prop} : ∀ {l : List (Str × Bool)}, (∀ p ∈ l, P p.1 p.2) → ∀ y b, isaL l y = some b → P y b
  | [], _, _, _, h => by cases h
  | p :: l, ha, y, b, h => by
    have h' : (p :: l).lookup y = some b := h
    rw [show p :: l = (p.1, p.2) :: l from rfl, List.lookup_cons] at h'
    split at h'
    · rename_i e
      cases h'
      rw [eq_of_beq e]
      exact ha p List.mem_cons_self
    · exact isa_all (fun q hq => ha q (List.mem_cons_of_mem _ hq)) y b h'
/-- a class that an except clause or isinstance names -/
structure Ec (K : PySem.W.Frag) (mg : Str → Option Value) (l : List (Str × Bool)) (x : Str) : Prop where
  ex : ∃ C, mg x = some (.ref C) ∧ ∀ y b, isaL l y = some b → ∀ C', mg y = some (.ref C') → PySem.W.exmOne K (.ref C') (.ref C) = some b
structure Ic (K : PySem.W.Frag) (mg : Str → Option Value) (l : List (Str × Bool)) (x : Str) : Prop where
  ex : ∃ C, mg x = some (.ref C) ∧ XiT K mg (isaL l) (.ref C)
structure Ib (K : PySem.W.Frag) (mg : Str → Option Value) (l : List (Str × Bool)) (x : Str) (T : String) : Prop where
  no : mg x = none
  bt : bootBuiltins x = some (.type T)
  of : XiT K mg (isaL l) (.type T)
section
variable {X : Cx} {W : WX} {a C dd : Addr} {oe : Obj} {pn : List (Addr × Obj)} {y : Exn} {i : Nat} {n x : Str} {pos p p1 p2 : Pos} {l : List (Str × Bool)}
theorem d_xic (T : Ic X.K X.mg l x) (hm : X.mg "isinstance" = none) (hvi : bootBuiltins "isinstance" = some (.builtin "isinstance")) (hC : X.mg y.cls = some (.ref C)) (hz : Zc (.ref C) (some dd) oe) (hf : ∃ vs, oe.data = .fields vs) (hv : PE (X.suite a ((a, oe) :: pn)) (.Name n p) (tVar i))
    (hg : Gl X "isinstance" := by rfl) (hgx : Gl X x := by rfl) (hdb : (x == ("__debug__" : Str)) = false := by decide)
    (hs1 : starEach (.Name n p :: [.Name x p2]) X.env = (false, eval (.Name n p) X.env) :: starEach [.Name x p2] X.env := by rfl) (hs2 : starEach (.Name x p2 :: []) X.env = (false, eval (.Name x p2) X.env) :: starEach [] X.env := by rfl)
    (hpl : (backTo pos (starEach [.Name x p2] X.env)).any (·.1) = false := by rfl) : PE (X.suite a ((a, oe) :: pn)) (.Call (.Name "isinstance" p1) [.Name n p, .Name x p2] [] pos) (tE X.K X.mg W (eXi (isaL l) a dd y i)) := by
  obtain ⟨D, hm2, T⟩ := T.ex
  exact d_xi T hC hz hf hv hg hm hvi (pe_glob (X := X.suite a ((a, oe) :: pn)) (v := .ref D) hgx hm2 rfl hdb) (fun u h => h) hs1 hs2 hpl
theorem d_xib {T : String} (B : Ib X.K X.mg l x T) (hm : X.mg "isinstance" = none) (hvi : bootBuiltins "isinstance" = some (.builtin "isinstance")) (hC : X.mg y.cls = some (.ref C)) (hz : Zc (.ref C) (some dd) oe) (hf : ∃ vs, oe.data = .fields vs) (hv : PE (X.suite a ((a, oe) :: pn)) (.Name n p) (tVar i))
    (hg : Gl X "isinstance" := by rfl) (hgx : Gl X x := by rfl) (hn : x ≠ "__name__" := by decide) (hdb : (x == ("__debug__" : Str)) = false := by decide)
    (hs1 : starEach (.Name n p :: [.Name x p2]) X.env = (false, eval (.Name n p) X.env) :: starEach [.Name x p2] X.env := by rfl) (hs2 : starEach (.Name x p2 :: []) X.env = (false, eval (.Name x p2) X.env) :: starEach [] X.env := by rfl)
    (hpl : (backTo pos (starEach [.Name x p2] X.env)).any (·.1) = false := by rfl) : PE (X.suite a ((a, oe) :: pn)) (.Call (.Name "isinstance" p1) [.Name n p, .Name x p2] [] pos) (tE X.K X.mg W (eXi (isaL l) a dd y i)) :=
  d_xi B.of hC hz hf hv hg hm hvi (pe_bltn (X := X.suite a ((a, oe) :: pn)) (v := .ty T) hgx B.no B.bt rfl hn hdb) (fun u h => h) hs1 hs2 hpl
end
section
variable {X : Cx} {W : WX} {ks : List Nat} {i : Nat} {x n : Str} {body suite : List Stmt} {b₀ : Stmt} {np pos pos' : Pos} {gb : M Fl} {h : Addr → Addr → Exn → M Fl} {l : List (Str × Bool)}
theorem s_tryc (hN : X.N.Nodup) (hi : X.N[i]? = some n) (E : Ec X.K X.mg l x) (tk : Takes X W)
    (hb : ∀ (W : WX) (pn : List (Addr × Obj)) (xe : Value → Shared → Prop), Takes (X.tr pn xe) W → PassesOwn (model X.prog X.w) X.A X.env xe → PSs (X.tr pn xe) body (tS X.K X.mg W ks gb))
    (hsu : ∀ (a : Addr) (oe : Obj) (C dd : Addr) (y : Exn) (pn : List (Addr × Obj)), X.mg y.cls = some (.ref C) → Zc (.ref C) (some dd) oe → (∃ vs, oe.data = .fields vs) →
      PSs (X.suite a ((a, oe) :: pn)) (b₀ :: suite) (tS X.K X.mg (fun _ _ _ _ => False) ks (h a dd y)))
    (hk : i ∉ ks := by decide) (hs : X.stack = X.env :: X.outer := by rfl) (hf : X.env.frame = some X.env.locals := by rfl) (hln : X.env.kindOf n = some .local := by rfl) (hg : Gl X x := by rfl) (hdb : (x == ("__debug__" : Str)) = false := by decide) :
    PS X (.Try body [.ExceptHandler (some (.Name x np)) (some n) (b₀ :: suite) pos'] [] [] pos) (tS X.K X.mg W ks (sTry (isaL l) i gb h)) := by
  obtain ⟨C, hm, hx⟩ := E.ex
  exact s_try hN hi ⟨hg, hdb, .inl hm⟩ tk (fun y b C h => hx y b h C) hb hsu hk hs hf hln
end
/-- the first of the error classes -/
structure Er0 (P : Program) (w : World) (K : PySem.W.Frag) (mg : Str → Option Value) (base : Heap) (k : Nat) (x : Str) : Prop where
  ex : ∃ (C f : Addr) (fd : FuncData), mg x = some (.ref C) ∧ CRead K C (.type "type") ∧ PySem.W.findCls K (.ref C) (.type "type") "__init__" = some (.val (.ref f)) ∧ PySem.W.keepIn K (.ref f) = true ∧
    FnOk P w K mg base (L2.CX P w) k f fd ["self", "word", "place"] (spT K) ∧ Binds K fd ["self", "word", "place"] []
section
variable {P : Program} {w : World} {K : PySem.W.Frag} {mg : Str → Option Value} {base : Heap}
theorem ok_initC {x0 qual x : Str} {st : Stmt} {f : Addr} {fd : FuncData} {k : Nat} (F : FunX K "__init__" qual st f fd) (Sc : FnScope ["self", "place"] ["self", "place"] (defScope st)) (E0 : Er0 P w K mg base k x0)
    (hb : ∀ (C f0 : Addr) (fd0 : FuncData), mg x0 = some (.ref C) → CRead K C (.type "type") → PySem.W.findCls K (.ref C) (.type "type") "__init__" = some (.val (.ref f0)) → PySem.W.keepIn K (.ref f0) = true →
      FnOk P w K mg base (L2.CX P w) k f0 fd0 ["self", "word", "place"] (spT K) → Binds K fd0 ["self", "word", "place"] [] →
      ∀ (cdv : Value) (A : Around) (outer : List PySem.Env) (s : Shared) (H : Hp) (E : XK), Room k (A.deeper (envOfC qual (defScope st) s.heap.objs.size f cdv)) → Takes (cxOf (L2.CX P w) P w K mg base ["self", "place"] qual (defScope st) f cdv A outer s H E) (fun cls d _ H => E cls d H) →
      PSs (cxOf (L2.CX P w) P w K mg base ["self", "place"] qual (defScope st) f cdv A outer s H E) (defBody st) (tDrop (tCall (spT K) [] (fun _ _ _ => False) (tCons (tVar 0) (tCons (tC (.str x)) (tCons (tVar 1) tNil)))))) :
    FnOk P w K mg base (L2.CX P w) (k + 1) f fd ["self", "place"] (spB K x) := by
  obtain ⟨C, f0, fd0, h1, h2, h3, h4, h5, h6⟩ := E0.ex
  exact ok_initB F Sc fun cdv A outer s H E hr => hb C f0 fd0 h1 h2 h3 h4 h5 h6 cdv A outer s H E hr (takes_of rfl rfl rfl rfl)
/-- a def with defaults, its text told -/
theorem funD_mk {x qual : Str} {st : Stmt} {f T : Addr} {oc : Value} {od an : Option Addr} {osl : Array (Option Value)} {kV doc pm cdv ct : Value} {its : List Value} {n : Nat} {dd : Option Addr} {sl : Array (Option Value)} {dvs : List V}
    (l : K.lookup f = some ⟨oc, od, .func (PySem.W.fnOf x qual (defArgs st) (defBody st) (defScope st) (.ref T) kV doc pm an cdv ct), osl⟩) (c : PySem.W.codeIn K cdv qual = true) (k : PySem.W.keepIn K (.ref f) = true)
    (lT : K.lookup T = some ⟨.type "tuple", dd, .seq its.toArray n, sl⟩) (r : Vals dvs its) (hd : dvs ≠ []) : FunD K x qual (defArgs st) (defBody st) (defScope st) dvs [] f (PySem.W.fnOf x qual (defArgs st) (defBody st) (defScope st) (.ref T) kV doc pm an cdv ct) :=
  ⟨⟨oc, od, .ref T, kV, doc, pm, an, cdv, ct, osl, rfl, l, c, .inr ⟨hd, T, _, its, n, rfl, lT, rfl, r⟩, .inl rfl⟩, k⟩
theorem funX_mk {x qual : Str} {st : Stmt} {f : Addr} {dV : Value} {oc : Value} {od an : Option Addr} {osl : Array (Option Value)} {kV doc pm cdv ct : Value}
    (l : K.lookup f = some ⟨oc, od, .func (PySem.W.fnOf x qual (defArgs st) (defBody st) (defScope st) dV kV doc pm an cdv ct), osl⟩) (c : PySem.W.codeIn K cdv qual = true) : FunX K x qual st f (PySem.W.fnOf x qual (defArgs st) (defBody st) (defScope st) dV kV doc pm an cdv ct) :=
  ⟨⟨oc, od, dV, kV, doc, pm, an, cdv, ct, osl, rfl, l, c⟩⟩
theorem cl_mkD {k n : Nat} {x : Str} {F : Fn} {f : Addr} {fd : FuncData} {ps : List Str} {dvs : List V} {dv : List D} (h : FnOk P w K mg base (L2.CX P w) k f fd ps (spD K mg n F)) (hm : mg x = some (.ref f)) (hk : PySem.W.keepIn K (.ref f) = true) (hb : ∃ ds, Vals dvs ds ∧ Binds K fd ps ds) (hr : ∀ B, RepL K B dvs dv) (hn : ps.length = n := by rfl) : Cl P w K mg base k x n F dv := by
  obtain ⟨ds, h1, h2⟩ := hb
  exact ⟨f, fd, ps, ds, dvs, hn, by rw [hn]; exact h, hm, hk, h2, h1, hr⟩
/-- an empty tuple of the module's -/
theorem rep_unit {B : Hp} {U : Addr} {dd : Option Addr} {n : Nat} {sl : Array (Option Value)} (l : K.lookup U = some ⟨.type "tuple", dd, .seq #[] n, sl⟩) : Rep K B (.ref U) (.tup []) :=
  .tup (.inr ⟨_, #[], n, l, rfl, rfl, Nat.zero_le _, .nil⟩) .nil
theorem er_mk {x : Str} {k : Nat} {C fI : Addr} {fd : FuncData} (e : ErC K C) (iC : PySem.W.findIn K (.ref C) "__init__" = some (some (.ref fI))) (tI : PySem.W.typeIn K (.ref fI) = some (.type "function")) (hm : mg x = some (.ref C))
    (F : FnOk P w K mg base (L2.CX P w) k fI fd ["self", "place"] (spB K x)) (b1 : ∃ ds, Vals (([.non] : List V).drop 1) ds ∧ Binds K fd ["self", "place"] ds) (b0 : ∃ ds, Vals (([.non] : List V).drop 0) ds ∧ Binds K fd ["self", "place"] ds) : Er P w K mg base k x := by
  obtain ⟨ds, h1, h2⟩ := b1
  cases h1
  exact ⟨C, fI, fd, e, iC, tI, hm, F, h2, b0⟩
theorem er0_mk {x : Str} {k : Nat} {C f : Addr} {fd : FuncData} (hm : mg x = some (.ref C)) (rd : PySem.W.readsIn K C (.type "type") = true) (ga : PySem.W.specialIn K (.ref C) "__getattribute__" = some (some (.builtin "type.__getattribute__")))
    (cf : PySem.W.findCls K (.ref C) (.type "type") "__init__" = some (.val (.ref f))) (hk : PySem.W.keepIn K (.ref f) = true) (F : FnOk P w K mg base (L2.CX P w) k f fd ["self", "word", "place"] (spT K)) (b : ∃ ds, Vals (([.non] : List V).drop 1) ds ∧ Binds K fd ["self", "word", "place"] ds) : Er0 P w K mg base k x := by
  obtain ⟨ds, h1, h2⟩ := b
  cases h1
  exact ⟨C, f, fd, hm, ⟨rd, ga⟩, cf, hk, F, h2⟩
/-- what the text tells of an error class -/
structure Ek (K : PySem.W.Frag) (mg : Str → Option Value) (x : Str) (C : Addr) : Prop where
  hm : mg x = some (.ref C)
  er : ErC K C
  xf : XfC K C
  ec : ExcC K C
theorem ek_mk {x : Str} {C : Addr} {nm q : Str} {N : Addr} {bs bm : List Value} {sn : List Str} {sub : List Value} {ab : Bool} {col : Option Bool} {dd : Option Addr} {m0 m1 m2 m3 m5 : Option Value} (hm : mg x = some (.ref C))
    (xL : K.lookup C = some (excClassObj nm q C N bs bm true sn sub ab col dd m0 m1 m2 m3 m5 "ValueError.__new__")) (hbm : PySem.HandSPX.refsVE bm = true)
    (sa : PySem.W.findIn K (.ref C) "__setattr__" = some (some (.builtin "object.__setattr__"))) (ga : PySem.W.findIn K (.ref C) "__getattribute__" = some (some (.builtin "BaseException.__getattribute__"))) (gg : PySem.W.findIn K (.ref C) "__getattr__" = some none)
    (nW : PySem.W.findIn K (.ref C) "word" = some none) (nP : PySem.W.findIn K (.ref C) "place" = some none) (kC : PySem.W.keepIn K (.ref C) = true) (eC : PySem.W.subIn K (.ref C) (.type "BaseException") = some true) (tC : PySem.W.typeIn K (.ref C) = some (.type "type")) (hC : PySem.W.hasDictIn K C = true)
    (ca : PySem.W.findIn K (.ref C) "__class__" = some (some (.builtin "object.__class__"))) (hn : PySem.W.specialIn K (.builtin "object.__class__") "__get__" = some (some (.builtin "getset_descriptor.__get__"))) (ht : PySem.W.takesIn K (.builtin "object.__class__") = some true) (mo : PySem.W.mroIn K C (.type "object") = some true) : Ek K mg x C :=
  ⟨hm, ⟨⟨⟨nm, q, N, bs, bm, sn, sub, ab, col, dd, m0, m1, m2, m3, m5, xL, hbm⟩, sa, eC, tC, kC⟩, nW, nP⟩, ⟨ga, gg, eC, hC⟩, ⟨ga, gg, eC, hC, ca, hn, ht, mo⟩⟩
theorem ek_only {x : Str} {C C' : Addr} (h : Ek K mg x C) (h' : mg x = some (.ref C')) : C' = C := by
  rw [h.hm] at h'
  cases h'
  rfl
/-- a row of a table -/
theorem row_e {x : Str} {C D : Addr} {b : Bool} (h : Ek K mg x C) (hD : PySem.W.subIn K (.ref D) (.type "BaseException") = some true) (hd : PySem.W.hasDictIn K D = true) (tD : PySem.W.typeIn K (.ref D) = some (.type "type")) (s : PySem.W.subIn K (.ref C) (.ref D) = some b) :
    ∀ C', mg x = some (.ref C') → PySem.W.exmOne K (.ref C') (.ref D) = some b := fun C' h' => by
  rw [ek_only h h']
  exact PySem.W.exm_ref hD hd tD s
theorem row_i {x : Str} {C : Addr} {cv : Value} {b : Bool} (h : Ek K mg x C) (s : PySem.W.kitOne K (.ref C) cv = some b) : ∀ C', mg x = some (.ref C') → ExcC K C' ∧ PySem.W.kitOne K (.ref C') cv = some b := fun C' h' => by
  rw [ek_only h h']
  exact ⟨h.ec, s⟩
theorem kit_c {C D : Addr} {b : Bool} (hd : PySem.W.hasDictIn K D = true) (tD : PySem.W.typeIn K (.ref D) = some (.type "type")) (s : PySem.W.subIn K (.ref C) (.ref D) = some b) (r : PySem.W.subIn K (.ref D) (.ref D) = some true) : PySem.W.kitOne K (.ref C) (.ref D) = some b := by
  unfold PySem.W.kitOne
  by_cases h : (Value.ref C == Value.ref D) = true
  · rw [if_pos h]
    have e : Value.ref C = Value.ref D := by simpa using h
    rw [e, r] at s
    exact s
  · rw [if_neg h]
    obtain ⟨cd, hc, _⟩ := PySem.W.any_some hd
    show (if ((PySem.W.clsIn K D).isSome && PySem.W.typeIn K (.ref D) == some (.type "type")) = true then PySem.W.subIn K (.ref C) (.ref D) else none) = some b
    rw [if_pos (by rw [hc, tD] <;> rfl)]
    exact s
theorem kit_b {C : Addr} {T : String} {b : Bool} (hk : PySem.W.kitMeta T = true) (s : PySem.W.subIn K (.ref C) (.type T) = some b) : PySem.W.kitOne K (.ref C) (.type T) = some b := by
  unfold PySem.W.kitOne
  rw [if_neg (by simp)]
  show (if PySem.W.kitMeta T = true then PySem.W.subIn K (.ref C) (.type T) else none) = some b
  rw [if_pos hk]
  exact s
theorem row_x {x : Str} {C : Addr} (h : Ek K mg x C) : ∀ C', mg x = some (.ref C') → XfC K C' ∧ PySem.W.findIn K (.ref C') "word" = some none ∧ PySem.W.findIn K (.ref C') "place" = some none := fun C' h' => by
  rw [ek_only h h']
  exact ⟨h.xf, h.er.nW, h.er.nP⟩
end
theorem all_n {α : Type} {P : α → Prop} : ∀ x ∈ ([] : List α), P x := fun _ h => by cases h
theorem all_c {α : Type} {P : α → Prop} {a : α} {l : List α} (h : P a) (hs : ∀ x ∈ l, P x) : ∀ x ∈ a :: l, P x := fun x hx => by
  rcases List.mem_cons.mp hx with rfl | hx
  · exact h
  · exact hs x hx
end Dn

namespace Dn
open PySem L2

/-! ## 43. Errors evaluated -/
theorem sRaise0_a (x : Str) (e : Sl) : sRaise0 x e = some (.ex ⟨x, xfs x .non⟩ e) := nr rfl
theorem sRaise_a (x : Str) (f : M O) (e : Sl) : sRaise x f e = @thn' _ _ (f e) ⟨fun o e' => some (.ex ⟨x, xfs x o.d⟩ e')⟩ := by
  unfold sRaise items items M.bind M.pure
  cases f e with
  | none => rfl
  | some r => cases r <;> rfl
/-- where a body's error goes -/
def HandP (c : Str → Option Bool) (i : Nat) (h : Addr → Addr → Exn → M Fl) [Q : PostE Fl] [X : PostE Exn] (x : Exn) (e : Sl) : Prop := match c x.cls with
  | some true => ∃ r, Suits i h x e r ∧ @EvC _ (some r) Q X
  | some false => X.run x e
  | none => False
def HandT (i : Nat) (h : Addr → Addr → Exn → M Fl) [Q : PostE Fl] [X : PostE Exn] (x : Exn) (e : Sl) : Prop := ∃ r, Suits i h x e r ∧ @EvC _ (some r) Q X
theorem Suits.one {i : Nat} {h : Addr → Addr → Exn → M Fl} {x : Exn} {e : Sl} {r r' : Ro Fl} (a : Suits i h x e r) (b : Suits i h x e r') : r = r' := by
  have := (a 0 0).symm.trans (b 0 0)
  injection this
theorem Ev_sTry {c : Str → Option Bool} {i : Nat} {b : M Fl} {h : Addr → Addr → Exn → M Fl} {e : Sl} {Q : PostE Fl} {X : PostE Exn} :
    @EvC _ (sTry c i b h e) Q X = @EvC _ (b e) Q ⟨fun x e' => HandP c i h x e'⟩ := by
  unfold sTry
  cases b e with
  | none => rfl
  | some r =>
    cases r with
    | ok a e' => rfl
    | ex x e' =>
      show _ = HandP c i h x e'
      unfold HandP
      dsimp only
      cases c x.cls with
      | none => rfl
      | some t =>
        cases t with
        | false => rfl
        | true =>
          dsimp only
          refine propext ⟨fun z => ?_, fun ⟨r, s, z⟩ => ?_⟩
          · by_cases hh : ∃ r, Suits i h x e' r
            · rw [dif_pos hh] at z
              exact ⟨_, hh.choose_spec, z⟩
            · rw [dif_neg hh] at z; exact z.elim
          · have hh : ∃ r, Suits i h x e' r := ⟨r, s⟩
            rw [dif_pos hh, hh.choose_spec.one s]
            exact z
theorem HandP_t {c : Str → Option Bool} {i : Nat} {h : Addr → Addr → Exn → M Fl} {x : Str} {fs : List (Str × D)} {e : Sl} {Q : PostE Fl} {X : PostE Exn} (hc : c x = some true) : @HandP c i h Q X ⟨x, fs⟩ e = @HandT i h Q X ⟨x, fs⟩ e := by
  unfold HandP HandT
  dsimp only
  rw [hc]
theorem HandP_f {c : Str → Option Bool} {i : Nat} {h : Addr → Addr → Exn → M Fl} {x : Str} {fs : List (Str × D)} {e : Sl} {Q : PostE Fl} {X : PostE Exn} (hc : c x = some false) : @HandP c i h Q X ⟨x, fs⟩ e = X.run ⟨x, fs⟩ e := by
  unfold HandP
  dsimp only
  rw [hc]
theorem HandT.of {i : Nat} {h : Addr → Addr → Exn → M Fl} {x : Exn} {e : Sl} {Q : PostE Fl} {X : PostE Exn} (fl : Fl) (E : Sl)
    (hs : ∀ a d, Ev (h a d x (e.set i (some (.exn a d x)))) (fun fl' e' => fl' = fl ∧ e'.set i none = E) (fun _ _ => False)) (q : Q.run fl E) : @HandT i h Q X x e := by
  refine ⟨.ok fl E, fun a d => ?_, q⟩
  obtain ⟨fl', e', h1, rfl, rfl⟩ := (hs a d).get
  rw [h1]; rfl
theorem eXf_p {cs : List Str} {a d : Addr} {x : Str} {u : D} {i : Nat} {e : Sl} (hx : x ∈ cs) (hg : getO e i = some (.exn a d ⟨x, xfs x u⟩)) : eXf cs a d ⟨x, xfs x u⟩ i (PySem.Str.ofString "place") e = some (.ok (.fr u) e) := by
  have he : e[i]? = some (some (.exn a d ⟨x, xfs x u⟩)) := by
    unfold getO at hg
    split at hg
    · rename_i o ho; cases hg; exact ho
    · cases hg
  unfold eXf
  rw [if_pos hx, he]
  show (if a = a ∧ d = d then _ else _) = _
  rw [if_pos ⟨rfl, rfl⟩]
  rfl
theorem eXf_w {cs : List Str} {a d : Addr} {x : Str} {u : D} {i : Nat} {e : Sl} (hx : x ∈ cs) (hg : getO e i = some (.exn a d ⟨x, xfs x u⟩)) : eXf cs a d ⟨x, xfs x u⟩ i (PySem.Str.ofString "word") e = some (.ok (.fr (.str x)) e) := by
  have he : e[i]? = some (some (.exn a d ⟨x, xfs x u⟩)) := by
    unfold getO at hg
    split at hg
    · rename_i o ho; cases hg; exact ho
    · cases hg
  unfold eXf
  rw [if_pos hx, he]
  show (if a = a ∧ d = d then _ else _) = _
  rw [if_pos ⟨rfl, rfl⟩]
  rfl
theorem eXi_a {l : List (Str × Bool)} {a d : Addr} {x : Str} {fs : List (Str × D)} {i : Nat} {e : Sl} {b : Bool} (hx : isaL l x = some b) (hg : getO e i = some (.exn a d ⟨x, fs⟩)) : eXi (isaL l) a d ⟨x, fs⟩ i e = some (.ok (bO b) e) := by
  have he : e[i]? = some (some (.exn a d ⟨x, fs⟩)) := by
    unfold getO at hg
    split at hg
    · rename_i o ho; cases hg; exact ho
    · cases hg
  unfold eXi
  rw [he]
  show (if a = a ∧ d = d then _ else _) = _
  rw [if_pos ⟨rfl, rfl⟩]
  dsimp only
  rw [hx]
  rfl
end Dn

namespace Dn
open PySem L2
open Evl (Ex)

/-! ## 44. list.count of a text -/
def rCntS (K : PySem.W.Frag) : V → List V → Hp → VK → Prop := fun x xs H Q => ∃ (p : Addr) (ys : List Str) (k : Str), x = .ref p ∧ xs = [.str k] ∧ SqL K H p (ys.map V.str) ∧ Q (.int (ys.count k : Nat)) H
theorem countIn_c (k : Str) : ∀ ys : List Str, PySem.Spec.countIn (.str k) (ys.map PyData.str) = ((ys.count k : Nat) : Int)
  | [] => rfl
  | y :: ys => by
    have ih := countIn_c k ys
    rw [List.map_cons, PySem.Spec.countIn, ih, List.count_cons]
    simp only [PySem.Spec.same]
    rcases Bool.eq_false_or_eq_true (y == k) with hb | hb <;> simp only [hb, Bool.false_eq_true, if_true, if_false] <;> push_cast <;> omega
theorem strsAre_of : ∀ {ys : List Str} {its : List Value}, Vals (ys.map V.str) its → PyProof.Rows.StrsAre its ys
  | [], _, .nil => .nil
  | y :: ys, _, .cons h hs => by
    obtain ⟨t, rfl⟩ := h
    exact .cons _ _ (strsAre_of hs)
section
variable {X : Cx}
theorem mt_lcountS : MtR X "list.count" (rCntS X.K) := by
  intro pins s σ H x xs v us Q I rx rxs h
  obtain ⟨p, ys, k, rfl, rfl, hs, q⟩ := h
  cases rx
  obtain ⟨u, rfl, ru⟩ := rxs.one
  obtain ⟨t, rfl⟩ := ru
  obtain ⟨its, rv, hl, hlen⟩ := I.list hs
  refine PyProof.Rows.count_list_strs (vs := its) hl.isList (strsAre_of rv) ?_
  rw [countIn_c]
  exact ⟨.int (ys.count k : Nat), H, I.tok _, ⟨s.toks, rfl⟩, q⟩
end
def gLCount : List D → Option O
  | [.lst ds, .str k] => (strsD ds).map fun ys => iO (ys.count k : Nat)
  | _ => none
theorem strsD_of : ∀ {ds : List D} {ys : List Str}, strsD ds = some ys → ds = ys.map D.str
  | [], _, h => by cases h; rfl
  | d :: ds, ys, h => by
    cases d with
    | str b =>
      obtain ⟨zs, h1, rfl⟩ := Option.map_eq_some_iff.mp (show (strsD ds).map (b :: ·) = some ys from h)
      rw [strsD_of h1]; rfl
    | _ => cases h
theorem n_lcount {K : PySem.W.Frag} : SndM K (rCntS K) gLCount := fun B H x vs a ds o hx ha hr hg Q q => by
  unfold gLCount at hg
  split at hg
  · rename_i _ ls k e
    injection e with e1 e2
    subst e1 e2
    obtain ⟨ys, h1, rfl⟩ := Option.map_eq_some_iff.mp hg
    have e3 := strsD_of h1
    subst e3
    obtain ⟨p, xs, rfl, h2, h3⟩ := ha
    obtain ⟨y, rfl, h4⟩ := hr.one
    cases h4
    have e4 := repL_of_strs h3
    subst e4
    exact ⟨p, ys, k, rfl, rfl, Evl.sq_of h2, q.fr hx (.int _)⟩
  · cases hg
section
variable {X : Cx} {W : WX} {o e : Expr} {p q : P} {G : List D → Option O} {id : String} {name : Str} {apos pos : Pos} {r : V → List V → Hp → VK → Prop}
theorem d_lm1 (slot : Slot "list" name id) (ty : typeOf (.builtin id) = pure (.type "method_descriptor")) (rule : MtR X id r) (hs : SndM X.K r G) (ho : PE X o (tP X.K X.mg W p)) (he : PE X e (tP X.K X.mg W q))
    (hbase : attributeBase o name X.env (eval o X.env) = eval o X.env := by rfl)
    (hfew : ((backTo pos (starEach [e] X.env)).all (fun x => !x.1) && (backToKw pos (keywordEach [] X.env)).all (fun x => x.1.isSome)
      && decide (([e] : List Expr).length + ([] : List Keyword).length + (if ([] : List Keyword).isEmpty then 0 else 1) < 30)) = true := by rfl)
    (hline : (apos.endLine == pos.line) = true := by rfl) (hst : starEach [e] X.env = (false, eval e X.env) :: starEach [] X.env := by rfl) (hpl : (backTo pos (starEach [] X.env)).any (·.1) = false := by rfl) :
    PE X (.Call (.Attribute o name apos) [e] [] pos) (tE X.K X.mg W (apM isLst G p [q])) := pe_imp (pe_bm PySem.F.plainAttrs_list slot ty rule ho (pa_c he pa_n hst) hbase hfew hline hst hpl) fun σ H Q h => apM_run (fun B H v d _ h c => chk_lst h c) hs h
end
theorem gLCount_s {ys : List Str} {k : Str} : gLCount [.lst (ys.map D.str), .str k] = some (iO (ys.count k : Nat)) := by
  have : strsD (ys.map D.str) = some ys := by
    induction ys with
    | nil => rfl
    | cons y ys ih => show (strsD (ys.map D.str)).map (y :: ·) = _; rw [ih]; rfl
  show (strsD _).map _ = _
  rw [this]; rfl
end Dn


namespace Lw
open PySem L2 Dn
/-! ### the text -/
def topS (i : Nat) : Stmt := PySem.Challenge.pw_talkalike_k26_normal_form_is_one.main.body.getD i (.Pass ⟨0, 0, 0, 0⟩)
abbrev s__law_deck : Stmt := topS 7
abbrev sc__law_deckN : List Str := [(PySem.Str.ofString "_law_script"), (PySem.Str.ofString "_law_seed"), (PySem.Str.ofString "_law_cell")]
theorem sc__law_deck : FnScope sc__law_deckN [(PySem.Str.ofString "_law_script")] (defScope s__law_deck) := ⟨rfl, rfl, rfl, by decide +kernel, rfl, by decide +kernel, by decide +kernel⟩
abbrev s__law_draw : Stmt := topS 8
abbrev sc__law_drawN : List Str := [(PySem.Str.ofString "_law_deck_here"), (PySem.Str.ofString "_law_bound"), (PySem.Str.ofString "_law_value")]
theorem sc__law_draw : FnScope sc__law_drawN [(PySem.Str.ofString "_law_deck_here"), (PySem.Str.ofString "_law_bound")] (defScope s__law_draw) := ⟨rfl, rfl, rfl, by decide +kernel, rfl, by decide +kernel, by decide +kernel⟩
abbrev s__law_letter : Stmt := topS 9
abbrev sc__law_letterN : List Str := [(PySem.Str.ofString "_law_deck_here")]
theorem sc__law_letter : FnScope sc__law_letterN [(PySem.Str.ofString "_law_deck_here")] (defScope s__law_letter) := ⟨rfl, rfl, rfl, by decide +kernel, rfl, by decide +kernel, by decide +kernel⟩
abbrev s__law_text : Stmt := topS 10
abbrev sc__law_textN : List Str := [(PySem.Str.ofString "_law_deck_here"), (PySem.Str.ofString "_law_most"), (PySem.Str.ofString "_law_size"), (PySem.Str.ofString "_law_k")]
theorem sc__law_text : FnScope sc__law_textN [(PySem.Str.ofString "_law_deck_here"), (PySem.Str.ofString "_law_most")] (defScope s__law_text) := ⟨rfl, rfl, rfl, by decide +kernel, rfl, by decide +kernel, by decide +kernel⟩
abbrev s__law_names : Stmt := topS 11
abbrev sc__law_namesN : List Str := [(PySem.Str.ofString "_law_deck_here"), (PySem.Str.ofString "_law_count"), (PySem.Str.ofString "_law_barred"), (PySem.Str.ofString "_law_names_here"), (PySem.Str.ofString "_law_k"), (PySem.Str.ofString "_law_name"), (PySem.Str.ofString "_law_tail")]
theorem sc__law_names : FnScope sc__law_namesN [(PySem.Str.ofString "_law_deck_here"), (PySem.Str.ofString "_law_count"), (PySem.Str.ofString "_law_barred")] (defScope s__law_names) := ⟨rfl, rfl, rfl, by decide +kernel, rfl, by decide +kernel, by decide +kernel⟩
abbrev s__law_pattern : Stmt := topS 12
abbrev sc__law_patternN : List Str := [(PySem.Str.ofString "_law_deck_here"), (PySem.Str.ofString "_law_pattern_here"), (PySem.Str.ofString "_law_k"), (PySem.Str.ofString "_law_sign")]
theorem sc__law_pattern : FnScope sc__law_patternN [(PySem.Str.ofString "_law_deck_here")] (defScope s__law_pattern) := ⟨rfl, rfl, rfl, by decide +kernel, rfl, by decide +kernel, by decide +kernel⟩
abbrev s__law_part : Stmt := topS 13
abbrev sc__law_partN : List Str := [(PySem.Str.ofString "_law_deck_here"), (PySem.Str.ofString "_law_names_here"), (PySem.Str.ofString "_law_registers"), (PySem.Str.ofString "_law_depth"), (PySem.Str.ofString "_law_kind"), (PySem.Str.ofString "_law_count"), (PySem.Str.ofString "_law_parts"), (PySem.Str.ofString "_law_k")]
theorem sc__law_part : FnScope sc__law_partN [(PySem.Str.ofString "_law_deck_here"), (PySem.Str.ofString "_law_names_here"), (PySem.Str.ofString "_law_registers"), (PySem.Str.ofString "_law_depth")] (defScope s__law_part) := ⟨rfl, rfl, rfl, by decide +kernel, rfl, by decide +kernel, by decide +kernel⟩
abbrev s__law_condition : Stmt := topS 14
abbrev sc__law_conditionN : List Str := [(PySem.Str.ofString "_law_deck_here"), (PySem.Str.ofString "_law_names_here"), (PySem.Str.ofString "_law_registers"), (PySem.Str.ofString "_law_depth")]
theorem sc__law_condition : FnScope sc__law_conditionN [(PySem.Str.ofString "_law_deck_here"), (PySem.Str.ofString "_law_names_here"), (PySem.Str.ofString "_law_registers"), (PySem.Str.ofString "_law_depth")] (defScope s__law_condition) := ⟨rfl, rfl, rfl, by decide +kernel, rfl, by decide +kernel, by decide +kernel⟩
abbrev s__law_normal : Stmt := topS 16
abbrev sc__law_normalN : List Str := [(PySem.Str.ofString "_law_condition_here"), (PySem.Str.ofString "_law_word"), (PySem.Str.ofString "_law_inner"), (PySem.Str.ofString "_law_neutral"), (PySem.Str.ofString "_law_final"), (PySem.Str.ofString "_law_members"), (PySem.Str.ofString "_law_left"), (PySem.Str.ofString "_law_member")]
theorem sc__law_normal : FnScope sc__law_normalN [(PySem.Str.ofString "_law_condition_here")] (defScope s__law_normal) := ⟨rfl, rfl, rfl, by decide +kernel, rfl, by decide +kernel, by decide +kernel⟩
abbrev s__law_collect : Stmt := topS 15
abbrev sc__law_collectN : List Str := [(PySem.Str.ofString "_law_word"), (PySem.Str.ofString "_law_condition_here"), (PySem.Str.ofString "_law_members"), (PySem.Str.ofString "_law_part_here"), (PySem.Str.ofString "_law_form"), (PySem.Str.ofString "_law_parts")]
theorem sc__law_collect : FnScope sc__law_collectN [(PySem.Str.ofString "_law_word"), (PySem.Str.ofString "_law_condition_here"), (PySem.Str.ofString "_law_members")] (defScope s__law_collect) := ⟨rfl, rfl, rfl, by decide +kernel, rfl, by decide +kernel, by decide +kernel⟩
abbrev s_normal : Stmt := topS 5
abbrev sc_normalN : List Str := [(PySem.Str.ofString "condition"), (PySem.Str.ofString "word"), (PySem.Str.ofString "inner")]
theorem sc_normal : FnScope sc_normalN [(PySem.Str.ofString "condition")] (defScope s_normal) := ⟨rfl, rfl, rfl, by decide +kernel, rfl, by decide +kernel, by decide +kernel⟩
abbrev s_joined : Stmt := topS 4
abbrev sc_joinedN : List Str := [(PySem.Str.ofString "word"), (PySem.Str.ofString "parts"), (PySem.Str.ofString "neutral"), (PySem.Str.ofString "final"), (PySem.Str.ofString "members"), (PySem.Str.ofString "member")]
theorem sc_joined : FnScope sc_joinedN [(PySem.Str.ofString "word"), (PySem.Str.ofString "parts"), (PySem.Str.ofString "neutral"), (PySem.Str.ofString "final")] (defScope s_joined) := ⟨rfl, rfl, rfl, by decide +kernel, rfl, by decide +kernel, by decide +kernel⟩
abbrev s_members_of : Stmt := topS 3
abbrev sc_members_ofN : List Str := [(PySem.Str.ofString "word"), (PySem.Str.ofString "parts"), (PySem.Str.ofString "members"), (PySem.Str.ofString "part"), (PySem.Str.ofString "form"), (PySem.Str.ofString "inner"), (PySem.Str.ofString "member")]
theorem sc_members_of : FnScope sc_members_ofN [(PySem.Str.ofString "word"), (PySem.Str.ofString "parts")] (defScope s_members_of) := ⟨rfl, rfl, rfl, by decide +kernel, rfl, by decide +kernel, by decide +kernel⟩
abbrev s__law_is_normal : Stmt := topS 17
abbrev sc__law_is_normalN : List Str := [(PySem.Str.ofString "_law_form"), (PySem.Str.ofString "_law_word"), (PySem.Str.ofString "_law_k")]
theorem sc__law_is_normal : FnScope sc__law_is_normalN [(PySem.Str.ofString "_law_form")] (defScope s__law_is_normal) := ⟨rfl, rfl, rfl, by decide +kernel, rfl, by decide +kernel, by decide +kernel⟩
abbrev s_law : Stmt := topS 18
abbrev sc_lawN : List Str := [(PySem.Str.ofString "_law_script"), (PySem.Str.ofString "_law_deck_here"), (PySem.Str.ofString "_law_names_here"), (PySem.Str.ofString "_law_registers"), (PySem.Str.ofString "_law_condition_here"), (PySem.Str.ofString "_law_due"), (PySem.Str.ofString "_law_asked"), (PySem.Str.ofString "_law_form")]
theorem sc_law : FnScope sc_lawN [(PySem.Str.ofString "_law_script")] (defScope s_law) := ⟨rfl, rfl, rfl, by decide +kernel, rfl, by decide +kernel, by decide +kernel⟩
/-! ### what each def computes -/
noncomputable section
def B__law_deck_0 : M Fl :=
  (sSet 1 (ap gMod [.v (ap gInt [.v (ap gAdd [.v (ap gMul [.b 1, .v (eC (.int 48271))]), .b 2])]), .v (eC (.int 2147483647))]))
def G__law_deck : M Fl :=
  (sSeq (sSet 1 (eC (.int 7)))
  (sSeq (sFor (sSeqD (eVar 0)) (.n 2)
    B__law_deck_0)
  (sRet (eLst [(eC (.int 0)), (eC (.int 0)), (eVar 1), (ap gListX [.b 0]), (eC (.int 19))]))))
def F__law_deck : Fn := mkF 3 [0] G__law_deck
def G__law_draw : M Fl :=
  (sSeq (sIf (cAnd (tst (ap gEq [.v (ap gIx [.b 0, .v (eC (.int 0))]), .v (eC (.int 0))])) (tst (ap gLtX [.v (ap gIx [.b 0, .v (eC (.int 1))]), .v (ap gLen [.v (ap gIx [.b 0, .v (eC (.int 3))])])])))
    (sSeq (sSetIx 0 (eC (.int 0)) (ap gAbs [.v (ap gIx [.v (ap gIx [.b 0, .v (eC (.int 3))]), .v (ap gIx [.b 0, .v (eC (.int 1))])])]))
  (sSetIx 0 (eC (.int 1)) (ap gAdd [.v (ap gIx [.b 0, .v (eC (.int 1))]), .v (eC (.int 1))])))
    (sIf (tst (ap gEq [.v (ap gIx [.b 0, .v (eC (.int 0))]), .v (eC (.int 0))]))
    (sSeq (sSetIx 0 (eC (.int 2)) (ap gMod [.v (ap gInt [.v (ap gAdd [.v (ap gMul [.v (ap gIx [.b 0, .v (eC (.int 2))]), .v (eC (.int 48271))]), .v (eC (.int 11))])]), .v (eC (.int 2147483647))]))
  (sSetIx 0 (eC (.int 0)) (ap gDiv [.v (ap gIx [.b 0, .v (eC (.int 2))]), .v (eC (.int 5))])))
    sNext))
  (sSeq (sSet 2 (ap gMod [.v (ap gInt [.v (ap gIx [.b 0, .v (eC (.int 0))])]), .b 1]))
  (sSeq (sSetIx 0 (eC (.int 0)) (ap gDiv [.v (ap gIx [.b 0, .v (eC (.int 0))]), .b 1]))
  (sRet (eMove 2)))))
def F__law_draw : Fn := mkF 3 [0, 1] G__law_draw
def G__law_letter : M Fl :=
  (sSeq (sIf (tst (ap gEq [.v (eCall F__law_draw [.b 0, .v (eC (.int 2))] []), .v (eC (.int 0))]))
    (sRet (ap gIx [.v (eC (.str (PySem.Str.ofString "ab"))), .v (eCall F__law_draw [.b 0, .v (eC (.int 2))] [])]))
    sNext)
  (sRet (ap gIx [.v (eC (.str (PySem.Str.ofString "abcdefghijklmnopqrstuvwxyz"))), .v (eCall F__law_draw [.b 0, .v (eC (.int 26))] [])])))
def F__law_letter : Fn := mkF 1 [0] G__law_letter
def C__law_text_0 : M O :=
  (eCall F__law_letter [.b 0] [])
def G__law_text : M Fl :=
  (sSeq (sSet 2 (eCall F__law_draw [.b 0, .v (ap gAdd [.b 1, .v (eC (.int 1))])] []))
  (sRet (apM isStr gJoin (.v (eC (.str (PySem.Str.ofString "")))) [.v (eComp [3] (sRng1 (.b 2)) (.n 3) cYes C__law_text_0)])))
def F__law_text : Fn := mkF 4 [0, 1] G__law_text
def B__law_names_0 : M Fl :=
  (sSeq (sIf (cAnd (tst (ap gNotIn [.b 5, .b 3])) (tst (ap gNotIn [.b 5, .b 2])))
    sBrk
    sNext)
  (sSet 5 (ap gAdd [.b 5, .v (ap gIx [.v (eC (.str (PySem.Str.ofString "abcdefghijklmnopqrstuvwxyz"))), .v (ap gMod [.v (ap gInt [.v (ap gAdd [.v (ap gMul [.b 4, .v (eC (.int 7))]), .b 6])]), .v (eC (.int 26))])])])))
def B__law_names_1 : M Fl :=
  (sSeq (sSet 5 (ap gAdd [.v (eCall F__law_letter [.b 0] []), .v (eCall F__law_text [.b 0, .v (eC (.int 2))] [])]))
  (sSeq (sFor (sRng1 (.v (eC (.int 9)))) (.n 6)
    B__law_names_0)
  (sDrop (eMut1 gApp 3 (eVar 5)))))
def G__law_names : M Fl :=
  (sSeq (sSet 3 (eLst []))
  (sSeq (sFor (sRng1 (.b 1)) (.n 4)
    B__law_names_1)
  (sRet (eMove 3))))
def F__law_names : Fn := mkF 7 [0, 1, 2] G__law_names
def B__law_pattern_0 : M Fl :=
  (sSeq (sSet 3 (eCall F__law_draw [.b 0, .v (eC (.int 5))] []))
  (sIf (tst (ap gEq [.b 3, .v (eC (.int 0))]))
    (sSet 1 (ap gAdd [.b 1, .v (eC (.str (PySem.Str.ofString "?")))]))
    (sIf (cAnd (tst (ap gEq [.b 3, .v (eC (.int 1))])) (tst (ap gLtX [.v (apM isStr gCount (.b 1) [.v (eC (.str (PySem.Str.ofString "*")))]), .v (eC (.int 2))])))
    (sSet 1 (ap gAdd [.b 1, .v (eC (.str (PySem.Str.ofString "*")))]))
    (sSet 1 (ap gAdd [.b 1, .v (eCall F__law_letter [.b 0] [])])))))
def G__law_pattern : M Fl :=
  (sSeq (sSet 1 (eC (.str (PySem.Str.ofString ""))))
  (sSeq (sFor (sRng1 (.v (eCall F__law_draw [.b 0, .v (eC (.int 6))] []))) (.n 2)
    B__law_pattern_0)
  (sRet (eMove 1))))
def F__law_pattern : Fn := mkF 4 [0] G__law_pattern
def C__law_part_0 (S__law_part : Fn) : M O :=
  (eCall S__law_part [.b 0, .b 1, .b 2, .v (ap gSub [.b 3, .v (eC (.int 1))])] [])
def G__law_part (S__law_part : Fn) : M Fl :=
  (sSeq (sSet 4 (eCall F__law_draw [.b 0, .v (eC (.int 9))] []))
  (sSeq (sIf (cAnd (tst (ap gLtX [.b 4, .v (eC (.int 3))])) (tst (ap gGt [.b 3, .v (eC (.int 1))])))
    (sSeq (sSet 5 (eCall F__law_draw [.b 0, .v (eC (.int 4))] []))
  (sSeq (sIf (tst (ap gEq [.v (eCall F__law_draw [.b 0, .v (eC (.int 12))] []), .v (eC (.int 0))]))
    (sSet 5 (ap gAdd [.v (eC (.int 5)), .v (eCall F__law_draw [.b 0, .v (eC (.int 15))] [])]))
    sNext)
  (sSeq (sSet 5 (ap gMin2 [.b 5, .v (ap gIx [.b 0, .v (eC (.int 4))])]))
  (sSeq (sSetIx 0 (eC (.int 4)) (ap gSub [.v (ap gIx [.b 0, .v (eC (.int 4))]), .b 5]))
  (sSeq (sSet 6 (eComp [7] (sRng1 (.b 5)) (.n 7) cYes (C__law_part_0 S__law_part)))
  (sSeq (sIf (cAnd (tst (ap gGt [.b 5, .v (eC (.int 0))])) (cAnd (tst (ap gGt [.v (ap gIx [.b 0, .v (eC (.int 4))]), .v (eC (.int 0))])) (cAnd (tst (ap gLtX [.v (ap gLen [.v (ap gIx [.b 6, .v (eC (.int 0))])]), .v (eC (.int 4))])) (tst (ap gIn [.v (ap gIx [.v (ap gIx [.b 6, .v (eC (.int 0))]), .v (eC (.int 0))]), .v (eLst [(eC (.str (PySem.Str.ofString "matches"))), (eC (.str (PySem.Str.ofString "empty"))), (eC (.str (PySem.Str.ofString "never")))])])))))
    (sSeq (sSetIx 0 (eC (.int 4)) (ap gSub [.v (ap gIx [.b 0, .v (eC (.int 4))]), .v (eC (.int 1))]))
  (sDrop (eMut1 gApp 6 (ap gIx [.b 6, .v (eC (.int 0))]))))
    sNext)
  (sRet (ap gAdd [.v (eTup [(ap gIx [.v (eLst [(eC (.str (PySem.Str.ofString "and"))), (eC (.str (PySem.Str.ofString "or")))]), .v (eCall F__law_draw [.b 0, .v (eC (.int 2))] [])])]), .v (ap gTuple [.b 6])]))))))))
    sNext)
  (sSeq (sIf (cAnd (tst (ap gEq [.b 4, .v (eC (.int 3))])) (cAnd (tst (ap gGt [.b 3, .v (eC (.int 1))])) (tst (ap gGt [.v (ap gIx [.b 0, .v (eC (.int 4))]), .v (eC (.int 0))]))))
    (sSeq (sSetIx 0 (eC (.int 4)) (ap gSub [.v (ap gIx [.b 0, .v (eC (.int 4))]), .v (eC (.int 1))]))
  (sRet (eTup [(eC (.str (PySem.Str.ofString "not"))), (eCall S__law_part [.b 0, .b 1, .b 2, .v (ap gSub [.b 3, .v (eC (.int 1))])] [])])))
    sNext)
  (sSeq (sIf (tst (ap gLtX [.b 4, .v (eC (.int 6))]))
    (sRet (eTup [(eC (.str (PySem.Str.ofString "matches"))), (ap gIx [.b 1, .v (eCall F__law_draw [.b 0, .v (ap gLen [.b 1])] [])]), (eCall F__law_pattern [.b 0] [])]))
    sNext)
  (sSeq (sIf (tst (ap gEq [.b 4, .v (eC (.int 6))]))
    (sRet (eTup [(eC (.str (PySem.Str.ofString "same"))), (ap gIx [.b 1, .v (eCall F__law_draw [.b 0, .v (ap gLen [.b 1])] [])]), (ap gIx [.b 1, .v (eCall F__law_draw [.b 0, .v (ap gLen [.b 1])] [])])]))
    sNext)
  (sSeq (sIf (cAnd (tst (ap gEq [.b 4, .v (eC (.int 7))])) (tst (ap gGt [.v (ap gLen [.b 2]), .v (eC (.int 0))])))
    (sRet (eTup [(eC (.str (PySem.Str.ofString "empty"))), (ap gIx [.b 2, .v (eCall F__law_draw [.b 0, .v (ap gLen [.b 2])] [])])]))
    sNext)
  (sRet (eTup [(ap gIx [.v (eLst [(eC (.str (PySem.Str.ofString "always"))), (eC (.str (PySem.Str.ofString "never")))]), .v (eCall F__law_draw [.b 0, .v (eC (.int 2))] [])])]))))))))
def F__law_part : Nat → Fn
  | 0 => fun _ => none
  | n + 1 => mkF 8 [0, 1, 2, 3] (G__law_part (F__law_part n))
def G__law_condition : M Fl :=
  (sSeq (sSetIx 0 (eC (.int 4)) (eC (.int 19)))
  (sRet (eCall (F__law_part 40) [.b 0, .b 1, .b 2, .b 3] [])))
def F__law_condition : Fn := mkF 4 [0, 1, 2, 3] G__law_condition
def T__law_normal_0 (S__law_normal S__law_collect : Fn) : M Bool :=
  (tst (ap gNe [.b 7, .b 3]))
def C__law_normal_0 (S__law_normal S__law_collect : Fn) : M O :=
  (eVar 7)
def G__law_normal (S__law_normal S__law_collect : Fn) : M Fl :=
  (sSeq (sSet 1 (ap gIx [.b 0, .v (eC (.int 0))]))
  (sSeq (sIf (tst (ap gEq [.b 1, .v (eC (.str (PySem.Str.ofString "not")))]))
    (sSeq (sSet 2 (eCall S__law_normal [.v (ap gIx [.b 0, .v (eC (.int 1))])] []))
  (sSeq (sIf (tst (ap gEq [.v (ap gIx [.b 2, .v (eC (.int 0))]), .v (eC (.str (PySem.Str.ofString "not")))]))
    (sRet (ap gIx [.b 2, .v (eC (.int 1))]))
    sNext)
  (sSeq (sIf (tst (ap gEq [.b 2, .v (eTup [(eC (.str (PySem.Str.ofString "always")))])]))
    (sRet (eTup [(eC (.str (PySem.Str.ofString "never")))]))
    sNext)
  (sSeq (sIf (tst (ap gEq [.b 2, .v (eTup [(eC (.str (PySem.Str.ofString "never")))])]))
    (sRet (eTup [(eC (.str (PySem.Str.ofString "always")))]))
    sNext)
  (sRet (eTup [(eC (.str (PySem.Str.ofString "not"))), (eVar 2)]))))))
    sNext)
  (sSeq (sIf (cAnd (tst (ap gNe [.b 1, .v (eC (.str (PySem.Str.ofString "and")))])) (tst (ap gNe [.b 1, .v (eC (.str (PySem.Str.ofString "or")))])))
    (sRet (eVar 0))
    sNext)
  (sSeq (sSet 3 (eTup [(eC (.str (PySem.Str.ofString "always")))]))
  (sSeq (sSet 4 (eTup [(eC (.str (PySem.Str.ofString "never")))]))
  (sSeq (sIf (tst (ap gEq [.b 1, .v (eC (.str (PySem.Str.ofString "or")))]))
    (sSeq (sSet 3 (eTup [(eC (.str (PySem.Str.ofString "never")))]))
  (sSet 4 (eTup [(eC (.str (PySem.Str.ofString "always")))])))
    sNext)
  (sSeq (sSet 5 (eLst []))
  (sSeq (sDrop (eCall S__law_collect [.b 1, .b 0, .b 5] []))
  (sSeq (sSet 6 (eComp [7] (sSeqD (eVar 5)) (.n 7) (T__law_normal_0 S__law_normal S__law_collect) (C__law_normal_0 S__law_normal S__law_collect)))
  (sSeq (sIf (tst (ap gIn [.b 4, .b 6]))
    (sRet (eMove 4))
    sNext)
  (sSeq (sIf (tst (ap gEq [.b 6, .v (eLst [])]))
    (sRet (eMove 3))
    sNext)
  (sSeq (sIf (tst (ap gEq [.v (ap gLen [.b 6]), .v (eC (.int 1))]))
    (sRet (ap gIx [.b 6, .v (eC (.int 0))]))
    sNext)
  (sRet (ap gAdd [.v (eTup [(eVar 1)]), .v (ap gTuple [.b 6])]))))))))))))))
def B__law_collect_0 (S__law_normal S__law_collect : Fn) : M Fl :=
  (sDrop (eCall S__law_collect [.b 0, .b 3, .b 2] []))
def B__law_collect_1 (S__law_normal S__law_collect : Fn) : M Fl :=
  (sIf (tst (ap gNotIn [.b 3, .b 2]))
    (sDrop (eMut1 gApp 2 (eVar 3)))
    sNext)
def G__law_collect (S__law_normal S__law_collect : Fn) : M Fl :=
  (sSeq (sIf (tst (ap gEq [.v (ap gIx [.b 1, .v (eC (.int 0))]), .b 0]))
    (sSeq (sFor (sSeqD (ap (gSl true false) [.b 1, .v (eC (.int 1))])) (.n 3)
    (B__law_collect_0 S__law_normal S__law_collect))
  (sRet (eC .non)))
    sNext)
  (sSeq (sSet 4 (eCall S__law_normal [.b 1] []))
  (sSeq (sSet 5 (eLst [(eVar 4)]))
  (sSeq (sIf (tst (ap gEq [.v (ap gIx [.b 4, .v (eC (.int 0))]), .b 0]))
    (sSet 5 (ap gListX [.v (ap (gSl true false) [.b 4, .v (eC (.int 1))])]))
    sNext)
  (sFor (sSeqD (eVar 5)) (.n 3)
    (B__law_collect_1 S__law_normal S__law_collect))))))
mutual
def F__law_normal : Nat → Fn
  | 0 => fun _ => none
  | n + 1 => mkF 8 [0] (G__law_normal (F__law_normal n) (F__law_collect n))
def F__law_collect : Nat → Fn
  | 0 => fun _ => none
  | n + 1 => mkF 6 [0, 1, 2] (G__law_collect (F__law_normal n) (F__law_collect n))
end
def G_normal (S_normal S_joined S_members_of : Fn) : M Fl :=
  (sSeq (sSet 1 (ap gIx [.b 0, .v (eC (.int 0))]))
  (sSeq (sIf (tst (ap gEq [.b 1, .v (eC (.str (PySem.Str.ofString "and")))]))
    (sRet (eCall S_joined [.b 1, .v (ap (gSl true false) [.b 0, .v (eC (.int 1))]), .v (eC (.tup [D.str (PySem.Str.ofString "always")])), .v (eC (.tup [D.str (PySem.Str.ofString "never")]))] []))
    sNext)
  (sSeq (sIf (tst (ap gEq [.b 1, .v (eC (.str (PySem.Str.ofString "or")))]))
    (sRet (eCall S_joined [.b 1, .v (ap (gSl true false) [.b 0, .v (eC (.int 1))]), .v (eC (.tup [D.str (PySem.Str.ofString "never")])), .v (eC (.tup [D.str (PySem.Str.ofString "always")]))] []))
    sNext)
  (sSeq (sIf (tst (ap gNe [.b 1, .v (eC (.str (PySem.Str.ofString "not")))]))
    (sRet (eVar 0))
    sNext)
  (sSeq (sSet 2 (eCall S_normal [.v (ap gIx [.b 0, .v (eC (.int 1))])] []))
  (sSeq (sIf (tst (ap gEq [.b 2, .v (eC (.tup [D.str (PySem.Str.ofString "always")]))]))
    (sRet (eC (.tup [D.str (PySem.Str.ofString "never")])))
    sNext)
  (sSeq (sIf (tst (ap gEq [.b 2, .v (eC (.tup [D.str (PySem.Str.ofString "never")]))]))
    (sRet (eC (.tup [D.str (PySem.Str.ofString "always")])))
    sNext)
  (sSeq (sIf (tst (ap gEq [.v (ap gIx [.b 2, .v (eC (.int 0))]), .v (eC (.str (PySem.Str.ofString "not")))]))
    (sRet (ap gIx [.b 2, .v (eC (.int 1))]))
    sNext)
  (sRet (eTup [(eC (.str (PySem.Str.ofString "not"))), (eVar 2)]))))))))))
def T_joined_0 (S_normal S_joined S_members_of : Fn) : M Bool :=
  (tst (ap gNe [.b 5, .b 2]))
def C_joined_0 (S_normal S_joined S_members_of : Fn) : M O :=
  (eVar 5)
def G_joined (S_normal S_joined S_members_of : Fn) : M Fl :=
  (sSeq (sSet 4 (eCall S_members_of [.b 0, .b 1] []))
  (sSeq (sIf (tst (ap gIn [.b 3, .b 4]))
    (sRet (eVar 3))
    sNext)
  (sSeq (sSet 4 (eComp [5] (sSeqD (eVar 4)) (.n 5) (T_joined_0 S_normal S_joined S_members_of) (C_joined_0 S_normal S_joined S_members_of)))
  (sSeq (sIf (tst (ap gEq [.v (ap gLen [.b 4]), .v (eC (.int 0))]))
    (sRet (eVar 2))
    sNext)
  (sSeq (sIf (tst (ap gEq [.v (ap gLen [.b 4]), .v (eC (.int 1))]))
    (sRet (ap gIx [.b 4, .v (eC (.int 0))]))
    sNext)
  (sRet (ap gAdd [.v (eTup [(eVar 0)]), .v (ap gTuple [.b 4])])))))))
def B_members_of_0 (S_normal S_joined S_members_of : Fn) : M Fl :=
  (sIf (tst (ap gNotIn [.b 6, .b 2]))
    (sDrop (eMut1 gApp 2 (eVar 6)))
    sNext)
def B_members_of_1 (S_normal S_joined S_members_of : Fn) : M Fl :=
  (sSeq (sSet 4 (eCall S_normal [.b 3] []))
  (sSeq (sSet 5 (eTup [(eVar 4)]))
  (sSeq (sIf (tst (ap gEq [.v (ap gIx [.b 4, .v (eC (.int 0))]), .b 0]))
    (sSet 5 (ap (gSl true false) [.b 4, .v (eC (.int 1))]))
    sNext)
  (sFor (sSeqD (eVar 5)) (.n 6)
    (B_members_of_0 S_normal S_joined S_members_of)))))
def G_members_of (S_normal S_joined S_members_of : Fn) : M Fl :=
  (sSeq (sSet 2 (eLst []))
  (sSeq (sFor (sSeqD (eVar 1)) (.n 3)
    (B_members_of_1 S_normal S_joined S_members_of))
  (sRet (eMove 2))))
mutual
def F_normal : Nat → Fn
  | 0 => fun _ => none
  | n + 1 => mkF 3 [0] (G_normal (F_normal n) (F_joined n) (F_members_of n))
def F_joined : Nat → Fn
  | 0 => fun _ => none
  | n + 1 => mkF 6 [0, 1, 2, 3] (G_joined (F_normal n) (F_joined n) (F_members_of n))
def F_members_of : Nat → Fn
  | 0 => fun _ => none
  | n + 1 => mkF 7 [0, 1] (G_members_of (F_normal n) (F_joined n) (F_members_of n))
end
def B__law_is_normal_0 (S__law_is_normal : Fn) : M Fl :=
  (sIf (cOr (tst (ap gIn [.v (ap gIx [.b 0, .b 2]), .v (ap (gSl true true) [.b 0, .v (eI (eC (.int 1))), .v (eI (eVar 2))])])) (cOr (tst (ap gIn [.v (ap gIx [.v (ap gIx [.b 0, .b 2]), .v (eC (.int 0))]), .v (eLst [(eVar 1), (eC (.str (PySem.Str.ofString "always"))), (eC (.str (PySem.Str.ofString "never")))])])) (cNot (tst (eCall S__law_is_normal [.v (ap gIx [.b 0, .b 2])] [])))))
    (sRet (eC (.bl false)))
    sNext)
def G__law_is_normal (S__law_is_normal : Fn) : M Fl :=
  (sSeq (sSet 1 (ap gIx [.b 0, .v (eC (.int 0))]))
  (sSeq (sIf (tst (ap gEq [.b 1, .v (eC (.str (PySem.Str.ofString "not")))]))
    (sRet (eAnd (ap gNotIn [.v (ap gIx [.v (ap gIx [.b 0, .v (eC (.int 1))]), .v (eC (.int 0))]), .v (eLst [(eC (.str (PySem.Str.ofString "not"))), (eC (.str (PySem.Str.ofString "always"))), (eC (.str (PySem.Str.ofString "never")))])]) (eCall S__law_is_normal [.v (ap gIx [.b 0, .v (eC (.int 1))])] [])))
    sNext)
  (sSeq (sIf (cAnd (tst (ap gNe [.b 1, .v (eC (.str (PySem.Str.ofString "and")))])) (tst (ap gNe [.b 1, .v (eC (.str (PySem.Str.ofString "or")))])))
    (sRet (eC (.bl true)))
    sNext)
  (sSeq (sIf (tst (ap gLtX [.v (ap gLen [.b 0]), .v (eC (.int 3))]))
    (sRet (eC (.bl false)))
    sNext)
  (sSeq (sFor (sRng2 (.v (eC (.int 1))) (.v (ap gLen [.b 0]))) (.n 2)
    (B__law_is_normal_0 S__law_is_normal))
  (sRet (eC (.bl true))))))))
def F__law_is_normal : Nat → Fn
  | 0 => fun _ => none
  | n + 1 => mkF 3 [0] (G__law_is_normal (F__law_is_normal n))
def B_law_0 : M Fl :=
  (sSeq (sSet 7 (eCall (F_normal 40) [.b 6] []))
  (sIf (cOr (cNot (tst (ap (gIsi "tuple") [.b 7]))) (cOr (tst (ap gNe [.b 7, .b 5])) (cNot (tst (eCall (F__law_is_normal 40) [.b 7] [])))))
    (sRet (eC (.bl false)))
    sNext))
def G_law : M Fl :=
  (sSeq (sSet 1 (eCall F__law_deck [.b 0] []))
  (sSeq (sSet 2 (eCall F__law_names [.b 1, .v (ap gAdd [.v (eC (.int 1)), .v (eCall F__law_draw [.b 1, .v (eC (.int 5))] [])]), .v (eLst [(eC (.str (PySem.Str.ofString "self")))])] []))
  (sSeq (sSet 3 (ap (gSl false true) [.b 2, .v (eCall F__law_draw [.b 1, .v (eC (.int 3))] [])]))
  (sSeq (sSet 4 (eCall F__law_condition [.b 1, .b 2, .b 3, .v (eC (.int 6))] []))
  (sSeq (sSet 5 (eCall (F__law_normal 40) [.b 4] []))
  (sSeq (sFor (sSeqD (eLst [(eVar 4), (eVar 5), (eVar 4)])) (.n 6)
    B_law_0)
  (sRet (eC (.bl true)))))))))
def F_law : Fn := mkF 8 [0] G_law
end
/-! ### each def computes it -/
section
variable {P : Program} {w : World} {K : PySem.W.Frag} {mg : Str → Option Value} {base : Heap}
set_option maxHeartbeats 4000000 in
theorem ok__law_deck {f : Addr} {fd : FuncData} (F : Fun K "_law_deck" "_law_deck" s__law_deck f fd) (m_int : mg "int" = none) (m_list : mg "list" = none) : FnOk P w K mg base (L2.CX P w) 1 f fd [(PySem.Str.ofString "_law_script")] (spD K mg 1 F__law_deck) :=
  fn_dn (k := 0) (ks := [0]) (g := G__law_deck) (N := sc__law_deckN) (ps := [(PySem.Str.ofString "_law_script")]) F sc__law_deck 1 3 rfl rfl (fun cdv A outer s H E hr tk hp => by
    have hu := hr.units
    have hu5 := hr.units5
    exact (ss_cons (s_set (i := 1) sc__law_deck.nd rfl (Or.inl rfl) d_int)
  (ss_cons (s_for hp rfl (i_seq (d_var (pv 0))) (pg_name (i := 2) sc__law_deck.nd rfl (Or.inl rfl))
    (ss_one (s_set (i := 1) sc__law_deck.nd rfl (Or.inl rfl) (d_op op_modN n_mod (p_v (d_ct call_int1 n_int rfl m_int bt_int (pa_c (p_v (d_op o_add n_add (p_v (d_op op_mul n_mul (p_b (pv 1)) (p_v d_int))) (p_b (pv 2)))) pa_n))) (p_v d_int)))) (by decide))
  (ss_one (s_ret (d_lst (is_c d_int (is_c d_int (is_c (d_var (pv 1)) (is_c (d_ct (cr_listX rfl) n_listX rfl m_list bt_list (pa_c (p_b (pv 0)) pa_n)) (is_c d_int is_n)))))))))))
set_option maxHeartbeats 4000000 in
theorem ok__law_draw {f : Addr} {fd : FuncData} (F : Fun K "_law_draw" "_law_draw" s__law_draw f fd) (m_abs : mg "abs" = none) (m_int : mg "int" = none) (m_len : mg "len" = none) : FnOk P w K mg base (L2.CX P w) 1 f fd [(PySem.Str.ofString "_law_deck_here"), (PySem.Str.ofString "_law_bound")] (spD K mg 2 F__law_draw) :=
  fn_dn (k := 0) (ks := [0, 1]) (g := G__law_draw) (N := sc__law_drawN) (ps := [(PySem.Str.ofString "_law_deck_here"), (PySem.Str.ofString "_law_bound")]) F sc__law_draw 2 3 rfl rfl (fun cdv A outer s H E hr tk hp => by
    have hu := hr.units
    have hu5 := hr.units5
    exact (ss_cons (s_if (c_w (w_and (c_cmp (o_eq hu) n_eq (p_v (d_ix ix_seq n_ix (p_b (pv 0)) (p_v d_int) (fun _ _ => rfl))) (p_v d_int) (nomark _)) (w_one (c_cmp (o_ltX hu) n_ltX (p_v (d_ix ix_seq n_ix (p_b (pv 0)) (p_v d_int) (fun _ _ => rfl))) (p_v (d_cb call_len n_len rfl m_len bt_len (pa_c (p_v (d_ix ix_seq n_ix (p_b (pv 0)) (p_v d_int) (fun _ _ => rfl))) pa_n))) (nomark _)))))
    (ss_cons (s_setIx (pv 0) d_int (d_cb call_abs n_abs rfl m_abs bt_abs (pa_c (p_v (d_ix ix_seq n_ix (p_v (d_ix ix_seq n_ix (p_b (pv 0)) (p_v d_int) (fun _ _ => rfl))) (p_v (d_ix ix_seq n_ix (p_b (pv 0)) (p_v d_int) (fun _ _ => rfl))) (fun _ _ => rfl))) pa_n)))
  (ss_one (s_setIx (pv 0) d_int (d_op o_add n_add (p_v (d_ix ix_seq n_ix (p_b (pv 0)) (p_v d_int) (fun _ _ => rfl))) (p_v d_int)))))
    (ss_one (s_if (c_cmp (o_eq hu) n_eq (p_v (d_ix ix_seq n_ix (p_b (pv 0)) (p_v d_int) (fun _ _ => rfl))) (p_v d_int) (nomark _))
    (ss_cons (s_setIx (pv 0) d_int (d_op op_modN n_mod (p_v (d_ct call_int1 n_int rfl m_int bt_int (pa_c (p_v (d_op o_add n_add (p_v (d_op op_mul n_mul (p_v (d_ix ix_seq n_ix (p_b (pv 0)) (p_v d_int) (fun _ _ => rfl))) (p_v d_int))) (p_v d_int))) pa_n))) (p_v d_int)))
  (ss_one (s_setIx (pv 0) d_int (d_op op_fdivN n_div (p_v (d_ix ix_seq n_ix (p_b (pv 0)) (p_v d_int) (fun _ _ => rfl))) (p_v d_int)))))
    ss_nil)))
  (ss_cons (s_set (i := 2) sc__law_draw.nd rfl (Or.inl rfl) (d_op op_modN n_mod (p_v (d_ct call_int1 n_int rfl m_int bt_int (pa_c (p_v (d_ix ix_seq n_ix (p_b (pv 0)) (p_v d_int) (fun _ _ => rfl))) pa_n))) (p_b (pv 1))))
  (ss_cons (s_setIx (pv 0) d_int (d_op op_fdivN n_div (p_v (d_ix ix_seq n_ix (p_b (pv 0)) (p_v d_int) (fun _ _ => rfl))) (p_b (pv 1))))
  (ss_one (s_ret (d_move (pv 2))))))))
set_option maxHeartbeats 4000000 in
theorem ok__law_letter {f : Addr} {fd : FuncData} (F : Fun K "_law_letter" "_law_letter" s__law_letter f fd) (c__law_draw : Cl P w K mg base 1 "_law_draw" 2 F__law_draw []) : FnOk P w K mg base (L2.CX P w) 2 f fd [(PySem.Str.ofString "_law_deck_here")] (spD K mg 1 F__law_letter) :=
  fn_dn (k := 1) (ks := [0]) (g := G__law_letter) (N := sc__law_letterN) (ps := [(PySem.Str.ofString "_law_deck_here")]) F sc__law_letter 1 1 rfl rfl (fun cdv A outer s H E hr tk hp => by
    have hu := hr.units
    have hu5 := hr.units5
    exact (ss_cons (s_if (c_cmp (o_eq hu) n_eq (p_v (d_call c__law_draw hr tk (pa_c (p_b (pv 0)) (pa_c (p_v d_int) pa_n)))) (p_v d_int) (nomark _))
    (ss_one (s_ret (d_ix ix_seq n_ix (p_v d_str) (p_v (d_call c__law_draw hr tk (pa_c (p_b (pv 0)) (pa_c (p_v d_int) pa_n)))) (fun _ _ => rfl))))
    ss_nil)
  (ss_one (s_ret (d_ix ix_seq n_ix (p_v d_str) (p_v (d_call c__law_draw hr tk (pa_c (p_b (pv 0)) (pa_c (p_v d_int) pa_n)))) (fun _ _ => rfl))))))
set_option maxHeartbeats 4000000 in
theorem ok__law_text {f : Addr} {fd : FuncData} (F : Fun K "_law_text" "_law_text" s__law_text f fd) (c__law_draw : Cl P w K mg base 1 "_law_draw" 2 F__law_draw []) (c__law_letter : Cl P w K mg base 2 "_law_letter" 1 F__law_letter []) (m_range : mg "range" = none) : FnOk P w K mg base (L2.CX P w) 3 f fd [(PySem.Str.ofString "_law_deck_here"), (PySem.Str.ofString "_law_most")] (spD K mg 2 F__law_text) :=
  fn_dn (k := 2) (ks := [0, 1]) (g := G__law_text) (N := sc__law_textN) (ps := [(PySem.Str.ofString "_law_deck_here"), (PySem.Str.ofString "_law_most")]) F sc__law_text 2 4 rfl rfl (fun cdv A outer s H E hr tk hp => by
    have hu := hr.units
    have hu5 := hr.units5
    exact (ss_cons (s_set (i := 2) sc__law_text.nd rfl (Or.inl rfl) (d_call c__law_draw hr tk (pa_c (p_b (pv 0)) (pa_c (p_v (d_op o_add n_add (p_b (pv 1)) (p_v d_int))) pa_n))))
  (ss_one (s_ret (d_m1 PySem.F.slot_str_join PySem.F.type_str_join mt_join n_join (p_v d_str) (p_v (d_comp (own := [(PySem.Str.ofString "_law_k", 3)]) rfl sc__law_text.nd (i_rng1 rfl m_range (pa_c (p_b (pv 2)) pa_n)) (blkOk_by (N := sc__law_textN) (sc := defScope s__law_text) (by decide +kernel)) (fun _ _ _ _ _ => (pg_name (i := 3) sc__law_text.nd rfl (Or.inl rfl))) (fun _ _ _ _ _ => pts_y) (fun _ _ _ _ _ => (d_call c__law_letter hr takes0 (pa_c (p_b (pv 0)) pa_n))) (by decide))))))))
set_option maxHeartbeats 4000000 in
theorem ok__law_names {f : Addr} {fd : FuncData} (F : Fun K "_law_names" "_law_names" s__law_names f fd) (c__law_letter : Cl P w K mg base 2 "_law_letter" 1 F__law_letter []) (c__law_text : Cl P w K mg base 3 "_law_text" 2 F__law_text []) (m_int : mg "int" = none) (m_range : mg "range" = none) : FnOk P w K mg base (L2.CX P w) 4 f fd [(PySem.Str.ofString "_law_deck_here"), (PySem.Str.ofString "_law_count"), (PySem.Str.ofString "_law_barred")] (spD K mg 3 F__law_names) :=
  fn_dn (k := 3) (ks := [0, 1, 2]) (g := G__law_names) (N := sc__law_namesN) (ps := [(PySem.Str.ofString "_law_deck_here"), (PySem.Str.ofString "_law_count"), (PySem.Str.ofString "_law_barred")]) F sc__law_names 3 7 rfl rfl (fun cdv A outer s H E hr tk hp => by
    have hu := hr.units
    have hu5 := hr.units5
    exact (ss_cons (s_set (i := 3) sc__law_names.nd rfl (Or.inl rfl) (d_lst is_n))
  (ss_cons (s_for hp rfl (i_rng1 rfl m_range (pa_c (p_b (pv 1)) pa_n)) (pg_name (i := 4) sc__law_names.nd rfl (Or.inl rfl))
    (ss_cons (s_set (i := 5) sc__law_names.nd rfl (Or.inl rfl) (d_op o_add n_add (p_v (d_call c__law_letter hr tk (pa_c (p_b (pv 0)) pa_n))) (p_v (d_call c__law_text hr tk (pa_c (p_b (pv 0)) (pa_c (p_v d_int) pa_n))))))
  (ss_cons (s_for hp rfl (i_rng1 rfl m_range (pa_c (p_v d_int) pa_n)) (pg_name (i := 6) sc__law_names.nd rfl (Or.inl rfl))
    (ss_cons (s_if (c_w (w_and (c_cmp (o_notin hu5) n_notin (p_b (pv 5)) (p_b (pv 3)) (by rfl)) (w_one (c_cmp (o_notin hu5) n_notin (p_b (pv 5)) (p_b (pv 2)) (by rfl)))))
    (ss_one s_brk)
    ss_nil)
  (ss_one (s_set (i := 5) sc__law_names.nd rfl (Or.inl rfl) (d_op o_add n_add (p_b (pv 5)) (p_v (d_ix ix_seq n_ix (p_v d_str) (p_v (d_op op_modN n_mod (p_v (d_ct call_int1 n_int rfl m_int bt_int (pa_c (p_v (d_op o_add n_add (p_v (d_op op_mul n_mul (p_b (pv 4)) (p_v d_int))) (p_b (pv 6)))) pa_n))) (p_v d_int))) (fun _ _ => rfl))))))) (by decide))
  (ss_one (s_drop (d_mut1 (pv 3) PySem.F.slot_list_append PySem.F.type_list_append mt_append u_app (d_var (pv 5))))))) (by decide))
  (ss_one (s_ret (d_move (pv 3)))))))
set_option maxHeartbeats 4000000 in
theorem ok__law_pattern {f : Addr} {fd : FuncData} (F : Fun K "_law_pattern" "_law_pattern" s__law_pattern f fd) (c__law_draw : Cl P w K mg base 1 "_law_draw" 2 F__law_draw []) (c__law_letter : Cl P w K mg base 2 "_law_letter" 1 F__law_letter []) (m_range : mg "range" = none) : FnOk P w K mg base (L2.CX P w) 3 f fd [(PySem.Str.ofString "_law_deck_here")] (spD K mg 1 F__law_pattern) :=
  fn_dn (k := 2) (ks := [0]) (g := G__law_pattern) (N := sc__law_patternN) (ps := [(PySem.Str.ofString "_law_deck_here")]) F sc__law_pattern 1 4 rfl rfl (fun cdv A outer s H E hr tk hp => by
    have hu := hr.units
    have hu5 := hr.units5
    exact (ss_cons (s_set (i := 1) sc__law_pattern.nd rfl (Or.inl rfl) d_str)
  (ss_cons (s_for hp rfl (i_rng1 rfl m_range (pa_c (p_v (d_call c__law_draw hr tk (pa_c (p_b (pv 0)) (pa_c (p_v d_int) pa_n)))) pa_n)) (pg_name (i := 2) sc__law_pattern.nd rfl (Or.inl rfl))
    (ss_cons (s_set (i := 3) sc__law_pattern.nd rfl (Or.inl rfl) (d_call c__law_draw hr tk (pa_c (p_b (pv 0)) (pa_c (p_v d_int) pa_n))))
  (ss_one (s_if (c_cmp (o_eq hu) n_eq (p_b (pv 3)) (p_v d_int) (nomark _))
    (ss_one (s_set (i := 1) sc__law_pattern.nd rfl (Or.inl rfl) (d_op o_add n_add (p_b (pv 1)) (p_v d_str))))
    (ss_one (s_if (c_w (w_and (c_cmp (o_eq hu) n_eq (p_b (pv 3)) (p_v d_int) (nomark _)) (w_one (c_cmp (o_ltX hu) n_ltX (p_v (d_m1 PySem.F.slot_str_count PySem.F.type_str_count mt_count n_count (p_b (pv 1)) (p_v d_str))) (p_v d_int) (nomark _)))))
    (ss_one (s_set (i := 1) sc__law_pattern.nd rfl (Or.inl rfl) (d_op o_add n_add (p_b (pv 1)) (p_v d_str))))
    (ss_one (s_set (i := 1) sc__law_pattern.nd rfl (Or.inl rfl) (d_op o_add n_add (p_b (pv 1)) (p_v (d_call c__law_letter hr tk (pa_c (p_b (pv 0)) pa_n))))))))))) (by decide))
  (ss_one (s_ret (d_move (pv 1)))))))
set_option maxHeartbeats 8000000 in
theorem ok__law_part {a__law_part : Addr} {d__law_part : FuncData} (F__law_part : Fun K "_law_part" "_law_part" s__law_part a__law_part d__law_part) (hm__law_part : mg "_law_part" = some (.ref a__law_part)) (hk__law_part : PySem.W.keepIn K (.ref a__law_part) = true) (c__law_draw : Cl P w K mg base 1 "_law_draw" 2 F__law_draw []) (c__law_pattern : Cl P w K mg base 3 "_law_pattern" 1 F__law_pattern []) (m_len : mg "len" = none) (m_min : mg "min" = none) (m_range : mg "range" = none) (m_tuple : mg "tuple" = none) : ∀ n : Nat, FnOk P w K mg base (L2.CX P w) (4 + n) a__law_part d__law_part [(PySem.Str.ofString "_law_deck_here"), (PySem.Str.ofString "_law_names_here"), (PySem.Str.ofString "_law_registers"), (PySem.Str.ofString "_law_depth")] (spD K mg 4 (Lw.F__law_part n))
  | 0 => fn_none rfl
  | n + 1 => by
    have ih := ok__law_part F__law_part hm__law_part hk__law_part c__law_draw c__law_pattern m_len m_min m_range m_tuple n
    have c__law_part : Cl P w K mg base (4 + n) "_law_part" 4 (Lw.F__law_part n) [] := cl_mk (ih) hm__law_part hk__law_part (F__law_part.binds fun _ _ _ _ _ _ us hl => match us, hl with | [_, _, _, _], _ => rfl)
    exact fn_dn (k := 4 + n) (ks := [0, 1, 2, 3]) (g := G__law_part (Lw.F__law_part n)) (N := sc__law_partN) (ps := [(PySem.Str.ofString "_law_deck_here"), (PySem.Str.ofString "_law_names_here"), (PySem.Str.ofString "_law_registers"), (PySem.Str.ofString "_law_depth")]) F__law_part sc__law_part 4 8 rfl rfl (fun cdv A outer s H E hr tk hp => by
      have hu := hr.units
      have hu5 := hr.units5
      exact (ss_cons (s_set (i := 4) sc__law_part.nd rfl (Or.inl rfl) (d_call (hk := by omega) c__law_draw hr tk (pa_c (p_b (pv 0)) (pa_c (p_v d_int) pa_n))))
  (ss_cons (s_if (c_w (w_and (c_cmp (o_ltX hu) n_ltX (p_b (pv 4)) (p_v d_int) (nomark _)) (w_one (c_cmp (o_gt hu) n_gt (p_b (pv 3)) (p_v d_int) (nomark _)))))
    (ss_cons (s_set (i := 5) sc__law_part.nd rfl (Or.inl rfl) (d_call (hk := by omega) c__law_draw hr tk (pa_c (p_b (pv 0)) (pa_c (p_v d_int) pa_n))))
  (ss_cons (s_if (c_cmp (o_eq hu) n_eq (p_v (d_call (hk := by omega) c__law_draw hr tk (pa_c (p_b (pv 0)) (pa_c (p_v d_int) pa_n)))) (p_v d_int) (nomark _))
    (ss_one (s_set (i := 5) sc__law_part.nd rfl (Or.inl rfl) (d_op o_add n_add (p_v d_int) (p_v (d_call (hk := by omega) c__law_draw hr tk (pa_c (p_b (pv 0)) (pa_c (p_v d_int) pa_n)))))))
    ss_nil)
  (ss_cons (s_set (i := 5) sc__law_part.nd rfl (Or.inl rfl) (d_cb (call_min2 rfl) n_min2 rfl m_min bt_min (pa_c (p_b (pv 5)) (pa_c (p_v (d_ix ix_seq n_ix (p_b (pv 0)) (p_v d_int) (fun _ _ => rfl))) pa_n))))
  (ss_cons (s_setIx (pv 0) d_int (d_op op_sub n_sub (p_v (d_ix ix_seq n_ix (p_b (pv 0)) (p_v d_int) (fun _ _ => rfl))) (p_b (pv 5))))
  (ss_cons (s_setLc (i := 6) (own := [(PySem.Str.ofString "_law_k", 7)]) rfl sc__law_part.nd rfl rfl (sw_true rfl rfl rfl (by decide +kernel)) (i_rng1 rfl m_range (pa_c (p_b (pv 5)) pa_n)) (blkOk_by (N := sc__law_partN) (sc := defScope s__law_part) (by decide +kernel)) (fun _ _ _ _ _ => (pg_name (i := 7) sc__law_part.nd rfl (Or.inl rfl))) (fun _ _ _ _ _ => pts_y) (fun _ _ _ _ _ => (d_call (hk := by omega) c__law_part hr takes0 (pa_c (p_b (pv 0)) (pa_c (p_b (pv 1)) (pa_c (p_b (pv 2)) (pa_c (p_v (d_op op_sub n_sub (p_b (pv 3)) (p_v d_int))) pa_n)))))) (by decide))
  (ss_cons (s_if (c_w (w_and (c_cmp (o_gt hu) n_gt (p_b (pv 5)) (p_v d_int) (nomark _)) (w_and (c_cmp (o_gt hu) n_gt (p_v (d_ix ix_seq n_ix (p_b (pv 0)) (p_v d_int) (fun _ _ => rfl))) (p_v d_int) (nomark _)) (w_and (c_cmp (o_ltX hu) n_ltX (p_v (d_cb call_len n_len rfl m_len bt_len (pa_c (p_v (d_ix ix_seq n_ix (p_b (pv 6)) (p_v d_int) (fun _ _ => rfl))) pa_n))) (p_v d_int) (nomark _)) (w_one (c_cmp (o_in hu5) n_in (p_v (d_ix ix_seq n_ix (p_v (d_ix ix_seq n_ix (p_b (pv 6)) (p_v d_int) (fun _ _ => rfl))) (p_v d_int) (fun _ _ => rfl))) (p_v (d_lst (hn := by simp) (is_c d_str (is_c d_str (is_c d_str is_n))))) (by rfl)))))))
    (ss_cons (s_setIx (pv 0) d_int (d_op op_sub n_sub (p_v (d_ix ix_seq n_ix (p_b (pv 0)) (p_v d_int) (fun _ _ => rfl))) (p_v d_int)))
  (ss_one (s_drop (d_mut1 (pv 6) PySem.F.slot_list_append PySem.F.type_list_append mt_append u_app (d_ix ix_seq n_ix (p_b (pv 6)) (p_v d_int) (fun _ _ => rfl))))))
    ss_nil)
  (ss_one (s_ret (d_op o_add n_add (p_v (d_tup (hn := by simp) (is_c (d_ix ix_seq n_ix (p_v (d_lst (hn := by simp) (is_c d_str (is_c d_str is_n)))) (p_v (d_call (hk := by omega) c__law_draw hr tk (pa_c (p_b (pv 0)) (pa_c (p_v d_int) pa_n)))) (fun _ _ => rfl)) is_n))) (p_v (d_ct call_tuple_of n_tuple rfl m_tuple bt_tuple (pa_c (p_b (pv 6)) pa_n))))))))))))
    ss_nil)
  (ss_cons (s_if (c_w (w_and (c_cmp (o_eq hu) n_eq (p_b (pv 4)) (p_v d_int) (nomark _)) (w_and (c_cmp (o_gt hu) n_gt (p_b (pv 3)) (p_v d_int) (nomark _)) (w_one (c_cmp (o_gt hu) n_gt (p_v (d_ix ix_seq n_ix (p_b (pv 0)) (p_v d_int) (fun _ _ => rfl))) (p_v d_int) (nomark _))))))
    (ss_cons (s_setIx (pv 0) d_int (d_op op_sub n_sub (p_v (d_ix ix_seq n_ix (p_b (pv 0)) (p_v d_int) (fun _ _ => rfl))) (p_v d_int)))
  (ss_one (s_ret (d_tup (hn := by simp) (is_c d_str (is_c (d_call (hk := by omega) c__law_part hr tk (pa_c (p_b (pv 0)) (pa_c (p_b (pv 1)) (pa_c (p_b (pv 2)) (pa_c (p_v (d_op op_sub n_sub (p_b (pv 3)) (p_v d_int))) pa_n))))) is_n))))))
    ss_nil)
  (ss_cons (s_if (c_cmp (o_ltX hu) n_ltX (p_b (pv 4)) (p_v d_int) (nomark _))
    (ss_one (s_ret (d_tup (hn := by simp) (is_c d_str (is_c (d_ix ix_seq n_ix (p_b (pv 1)) (p_v (d_call (hk := by omega) c__law_draw hr tk (pa_c (p_b (pv 0)) (pa_c (p_v (d_cb call_len n_len rfl m_len bt_len (pa_c (p_b (pv 1)) pa_n))) pa_n)))) (fun _ _ => rfl)) (is_c (d_call (hk := by omega) c__law_pattern hr tk (pa_c (p_b (pv 0)) pa_n)) is_n))))))
    ss_nil)
  (ss_cons (s_if (c_cmp (o_eq hu) n_eq (p_b (pv 4)) (p_v d_int) (nomark _))
    (ss_one (s_ret (d_tup (hn := by simp) (is_c d_str (is_c (d_ix ix_seq n_ix (p_b (pv 1)) (p_v (d_call (hk := by omega) c__law_draw hr tk (pa_c (p_b (pv 0)) (pa_c (p_v (d_cb call_len n_len rfl m_len bt_len (pa_c (p_b (pv 1)) pa_n))) pa_n)))) (fun _ _ => rfl)) (is_c (d_ix ix_seq n_ix (p_b (pv 1)) (p_v (d_call (hk := by omega) c__law_draw hr tk (pa_c (p_b (pv 0)) (pa_c (p_v (d_cb call_len n_len rfl m_len bt_len (pa_c (p_b (pv 1)) pa_n))) pa_n)))) (fun _ _ => rfl)) is_n))))))
    ss_nil)
  (ss_cons (s_if (c_w (w_and (c_cmp (o_eq hu) n_eq (p_b (pv 4)) (p_v d_int) (nomark _)) (w_one (c_cmp (o_gt hu) n_gt (p_v (d_cb call_len n_len rfl m_len bt_len (pa_c (p_b (pv 2)) pa_n))) (p_v d_int) (nomark _)))))
    (ss_one (s_ret (d_tup (hn := by simp) (is_c d_str (is_c (d_ix ix_seq n_ix (p_b (pv 2)) (p_v (d_call (hk := by omega) c__law_draw hr tk (pa_c (p_b (pv 0)) (pa_c (p_v (d_cb call_len n_len rfl m_len bt_len (pa_c (p_b (pv 2)) pa_n))) pa_n)))) (fun _ _ => rfl)) is_n)))))
    ss_nil)
  (ss_one (s_ret (d_tup (hn := by simp) (is_c (d_ix ix_seq n_ix (p_v (d_lst (hn := by simp) (is_c d_str (is_c d_str is_n)))) (p_v (d_call (hk := by omega) c__law_draw hr tk (pa_c (p_b (pv 0)) (pa_c (p_v d_int) pa_n)))) (fun _ _ => rfl)) is_n)))))))))))
set_option maxHeartbeats 4000000 in
theorem ok__law_condition {f : Addr} {fd : FuncData} (F : Fun K "_law_condition" "_law_condition" s__law_condition f fd) (c__law_part : Cl P w K mg base 44 "_law_part" 4 (Lw.F__law_part 40) []) : FnOk P w K mg base (L2.CX P w) 45 f fd [(PySem.Str.ofString "_law_deck_here"), (PySem.Str.ofString "_law_names_here"), (PySem.Str.ofString "_law_registers"), (PySem.Str.ofString "_law_depth")] (spD K mg 4 F__law_condition) :=
  fn_dn (k := 44) (ks := [0, 1, 2, 3]) (g := G__law_condition) (N := sc__law_conditionN) (ps := [(PySem.Str.ofString "_law_deck_here"), (PySem.Str.ofString "_law_names_here"), (PySem.Str.ofString "_law_registers"), (PySem.Str.ofString "_law_depth")]) F sc__law_condition 4 4 rfl rfl (fun cdv A outer s H E hr tk hp => by
    have hu := hr.units
    have hu5 := hr.units5
    exact (ss_cons (s_setIx (pv 0) d_int d_int)
  (ss_one (s_ret (d_call c__law_part hr tk (pa_c (p_b (pv 0)) (pa_c (p_b (pv 1)) (pa_c (p_b (pv 2)) (pa_c (p_b (pv 3)) pa_n)))))))))
set_option maxHeartbeats 8000000 in
theorem ok__law_normal {a__law_normal : Addr} {d__law_normal : FuncData} (F__law_normal : Fun K "_law_normal" "_law_normal" s__law_normal a__law_normal d__law_normal) (hm__law_normal : mg "_law_normal" = some (.ref a__law_normal)) (hk__law_normal : PySem.W.keepIn K (.ref a__law_normal) = true) {a__law_collect : Addr} {d__law_collect : FuncData} (F__law_collect : Fun K "_law_collect" "_law_collect" s__law_collect a__law_collect d__law_collect) (hm__law_collect : mg "_law_collect" = some (.ref a__law_collect)) (hk__law_collect : PySem.W.keepIn K (.ref a__law_collect) = true) (m_len : mg "len" = none) (m_list : mg "list" = none) (m_tuple : mg "tuple" = none) : ∀ n : Nat, FnOk P w K mg base (L2.CX P w) (1 + n) a__law_normal d__law_normal [(PySem.Str.ofString "_law_condition_here")] (spD K mg 1 (Lw.F__law_normal n)) ∧ FnOk P w K mg base (L2.CX P w) (1 + n) a__law_collect d__law_collect [(PySem.Str.ofString "_law_word"), (PySem.Str.ofString "_law_condition_here"), (PySem.Str.ofString "_law_members")] (spD K mg 3 (Lw.F__law_collect n))
  | 0 => ⟨fn_none rfl, fn_none rfl⟩
  | n + 1 => by
    have ih := ok__law_normal F__law_normal hm__law_normal hk__law_normal F__law_collect hm__law_collect hk__law_collect m_len m_list m_tuple n
    have c__law_normal : Cl P w K mg base (1 + n) "_law_normal" 1 (Lw.F__law_normal n) [] := cl_mk (ih.1) hm__law_normal hk__law_normal (F__law_normal.binds fun _ _ _ _ _ _ us hl => match us, hl with | [_], _ => rfl)
    have c__law_collect : Cl P w K mg base (1 + n) "_law_collect" 3 (Lw.F__law_collect n) [] := cl_mk (ih.2) hm__law_collect hk__law_collect (F__law_collect.binds fun _ _ _ _ _ _ us hl => match us, hl with | [_, _, _], _ => rfl)
    exact ⟨fn_dn (k := 1 + n) (ks := [0]) (g := G__law_normal (Lw.F__law_normal n) (Lw.F__law_collect n)) (N := sc__law_normalN) (ps := [(PySem.Str.ofString "_law_condition_here")]) F__law_normal sc__law_normal 1 8 rfl rfl (fun cdv A outer s H E hr tk hp => by
      have hu := hr.units
      have hu5 := hr.units5
      exact (ss_cons (s_set (i := 1) sc__law_normal.nd rfl (Or.inl rfl) (d_ix ix_seq n_ix (p_b (pv 0)) (p_v d_int) (fun _ _ => rfl)))
  (ss_cons (s_if (c_cmp (o_eq hu) n_eq (p_b (pv 1)) (p_v d_str) (nomark _))
    (ss_cons (s_set (i := 2) sc__law_normal.nd rfl (Or.inl rfl) (d_call (hk := by omega) c__law_normal hr tk (pa_c (p_v (d_ix ix_seq n_ix (p_b (pv 0)) (p_v d_int) (fun _ _ => rfl))) pa_n)))
  (ss_cons (s_if (c_cmp (o_eq hu) n_eq (p_v (d_ix ix_seq n_ix (p_b (pv 2)) (p_v d_int) (fun _ _ => rfl))) (p_v d_str) (nomark _))
    (ss_one (s_ret (d_ix ix_seq n_ix (p_b (pv 2)) (p_v d_int) (fun _ _ => rfl))))
    ss_nil)
  (ss_cons (s_if (c_cmp (o_eq hu) n_eq (p_b (pv 2)) (p_v (d_tup (hn := by simp) (is_c d_str is_n))) (nomark _))
    (ss_one (s_ret (d_tup (hn := by simp) (is_c d_str is_n))))
    ss_nil)
  (ss_cons (s_if (c_cmp (o_eq hu) n_eq (p_b (pv 2)) (p_v (d_tup (hn := by simp) (is_c d_str is_n))) (nomark _))
    (ss_one (s_ret (d_tup (hn := by simp) (is_c d_str is_n))))
    ss_nil)
  (ss_one (s_ret (d_tup (hn := by simp) (is_c d_str (is_c (d_var (pv 2)) is_n)))))))))
    ss_nil)
  (ss_cons (s_if (c_w (w_and (c_cmp (o_ne hu) n_ne (p_b (pv 1)) (p_v d_str) (nomark _)) (w_one (c_cmp (o_ne hu) n_ne (p_b (pv 1)) (p_v d_str) (nomark _)))))
    (ss_one (s_ret (d_var (pv 0))))
    ss_nil)
  (ss_cons (s_set (i := 3) sc__law_normal.nd rfl (Or.inr rfl) (d_tup (hn := by simp) (is_c d_str is_n)))
  (ss_cons (s_set (i := 4) sc__law_normal.nd rfl (Or.inl rfl) (d_tup (hn := by simp) (is_c d_str is_n)))
  (ss_cons (s_if (c_cmp (o_eq hu) n_eq (p_b (pv 1)) (p_v d_str) (nomark _))
    (ss_cons (s_set (i := 3) sc__law_normal.nd rfl (Or.inr rfl) (d_tup (hn := by simp) (is_c d_str is_n)))
  (ss_one (s_set (i := 4) sc__law_normal.nd rfl (Or.inl rfl) (d_tup (hn := by simp) (is_c d_str is_n)))))
    ss_nil)
  (ss_cons (s_set (i := 5) sc__law_normal.nd rfl (Or.inl rfl) (d_lst (hn := by simp) is_n))
  (ss_cons (s_drop (d_call (hk := by omega) c__law_collect hr tk (pa_c (p_b (pv 1)) (pa_c (p_b (pv 0)) (pa_c (p_b (pv 5)) pa_n)))))
  (ss_cons (s_setLc (i := 6) (own := [(PySem.Str.ofString "_law_member", 7)]) rfl sc__law_normal.nd rfl rfl (sw_true rfl rfl rfl (by decide +kernel)) (i_seq (d_var (pv 5))) (blkOk_by (N := sc__law_normalN) (sc := defScope s__law_normal) (by decide +kernel)) (fun _ _ _ _ _ => (pg_name (i := 7) sc__law_normal.nd rfl (Or.inl rfl))) (fun _ _ _ _ _ => (pts_1 (c_cmp (o_ne hu) n_ne (p_b (pv 7)) (p_b (pv 3)) (nomark _)))) (fun _ _ _ _ _ => (d_var (pv 7))) (by decide))
  (ss_cons (s_if (c_cmp (o_in hu5) n_in (p_b (pv 4)) (p_b (pv 6)) (by rfl))
    (ss_one (s_ret (d_move (pv 4))))
    ss_nil)
  (ss_cons (s_if (c_cmp (o_eq hu) n_eq (p_b (pv 6)) (p_v (d_lst (hn := by simp) is_n)) (nomark _))
    (ss_one (s_ret (d_move (pv 3))))
    ss_nil)
  (ss_cons (s_if (c_cmp (o_eq hu) n_eq (p_v (d_cb call_len n_len rfl m_len bt_len (pa_c (p_b (pv 6)) pa_n))) (p_v d_int) (nomark _))
    (ss_one (s_ret (d_ix ix_seq n_ix (p_b (pv 6)) (p_v d_int) (fun _ _ => rfl))))
    ss_nil)
  (ss_one (s_ret (d_op o_add n_add (p_v (d_tup (hn := by simp) (is_c (d_var (pv 1)) is_n))) (p_v (d_ct call_tuple_of n_tuple rfl m_tuple bt_tuple (pa_c (p_b (pv 6)) pa_n))))))))))))))))))),
      fn_dn (k := 1 + n) (ks := [0, 1, 2]) (g := G__law_collect (Lw.F__law_normal n) (Lw.F__law_collect n)) (N := sc__law_collectN) (ps := [(PySem.Str.ofString "_law_word"), (PySem.Str.ofString "_law_condition_here"), (PySem.Str.ofString "_law_members")]) F__law_collect sc__law_collect 3 6 rfl rfl (fun cdv A outer s H E hr tk hp => by
      have hu := hr.units
      have hu5 := hr.units5
      exact (ss_cons (s_if (c_cmp (o_eq hu) n_eq (p_v (d_ix ix_seq n_ix (p_b (pv 1)) (p_v d_int) (fun _ _ => rfl))) (p_b (pv 0)) (nomark _))
    (ss_cons (s_for hp rfl (i_seq (d_sl10 (p_b (pv 1)) (p_v d_int))) (pg_name (i := 3) sc__law_collect.nd rfl (Or.inl rfl))
    (ss_one (s_drop (d_call (hk := by omega) c__law_collect hr tk (pa_c (p_b (pv 0)) (pa_c (p_b (pv 3)) (pa_c (p_b (pv 2)) pa_n)))))) (by decide))
  (ss_one s_retN))
    ss_nil)
  (ss_cons (s_set (i := 4) sc__law_collect.nd rfl (Or.inl rfl) (d_call (hk := by omega) c__law_normal hr tk (pa_c (p_b (pv 1)) pa_n)))
  (ss_cons (s_set (i := 5) sc__law_collect.nd rfl (Or.inl rfl) (d_lst (hn := by simp) (is_c (d_var (pv 4)) is_n)))
  (ss_cons (s_if (c_cmp (o_eq hu) n_eq (p_v (d_ix ix_seq n_ix (p_b (pv 4)) (p_v d_int) (fun _ _ => rfl))) (p_b (pv 0)) (nomark _))
    (ss_one (s_set (i := 5) sc__law_collect.nd rfl (Or.inl rfl) (d_ct (cr_listX rfl) n_listX rfl m_list bt_list (pa_c (p_v (d_sl10 (p_b (pv 4)) (p_v d_int))) pa_n))))
    ss_nil)
  (ss_one (s_for hp rfl (i_seq (d_var (pv 5))) (pg_name (i := 3) sc__law_collect.nd rfl (Or.inl rfl))
    (ss_one (s_if (c_cmp (o_notin hu5) n_notin (p_b (pv 3)) (p_b (pv 2)) (by rfl))
    (ss_one (s_drop (d_mut1 (pv 2) PySem.F.slot_list_append PySem.F.type_list_append mt_append u_app (d_var (pv 3)))))
    ss_nil)) (by decide))))))))⟩
set_option maxHeartbeats 8000000 in
theorem ok_normal {a_normal : Addr} {d_normal : FuncData} (F_normal : Fun K "normal" "normal" s_normal a_normal d_normal) (hm_normal : mg "normal" = some (.ref a_normal)) (hk_normal : PySem.W.keepIn K (.ref a_normal) = true) {a_joined : Addr} {d_joined : FuncData} (F_joined : Fun K "joined" "joined" s_joined a_joined d_joined) (hm_joined : mg "joined" = some (.ref a_joined)) (hk_joined : PySem.W.keepIn K (.ref a_joined) = true) {a_members_of : Addr} {d_members_of : FuncData} (F_members_of : Fun K "members_of" "members_of" s_members_of a_members_of d_members_of) (hm_members_of : mg "members_of" = some (.ref a_members_of)) (hk_members_of : PySem.W.keepIn K (.ref a_members_of) = true) (g_ALWAYS : TupC K mg "ALWAYS" [D.str (PySem.Str.ofString "always")]) (g_NEVER : TupC K mg "NEVER" [D.str (PySem.Str.ofString "never")]) (m_len : mg "len" = none) (m_tuple : mg "tuple" = none) : ∀ n : Nat, FnOk P w K mg base (L2.CX P w) (1 + n) a_normal d_normal [(PySem.Str.ofString "condition")] (spD K mg 1 (Lw.F_normal n)) ∧ FnOk P w K mg base (L2.CX P w) (1 + n) a_joined d_joined [(PySem.Str.ofString "word"), (PySem.Str.ofString "parts"), (PySem.Str.ofString "neutral"), (PySem.Str.ofString "final")] (spD K mg 4 (Lw.F_joined n)) ∧ FnOk P w K mg base (L2.CX P w) (1 + n) a_members_of d_members_of [(PySem.Str.ofString "word"), (PySem.Str.ofString "parts")] (spD K mg 2 (Lw.F_members_of n))
  | 0 => ⟨fn_none rfl, fn_none rfl, fn_none rfl⟩
  | n + 1 => by
    have ih := ok_normal F_normal hm_normal hk_normal F_joined hm_joined hk_joined F_members_of hm_members_of hk_members_of g_ALWAYS g_NEVER m_len m_tuple n
    have c_normal : Cl P w K mg base (1 + n) "normal" 1 (Lw.F_normal n) [] := cl_mk (ih.1) hm_normal hk_normal (F_normal.binds fun _ _ _ _ _ _ us hl => match us, hl with | [_], _ => rfl)
    have c_joined : Cl P w K mg base (1 + n) "joined" 4 (Lw.F_joined n) [] := cl_mk (ih.2.1) hm_joined hk_joined (F_joined.binds fun _ _ _ _ _ _ us hl => match us, hl with | [_, _, _, _], _ => rfl)
    have c_members_of : Cl P w K mg base (1 + n) "members_of" 2 (Lw.F_members_of n) [] := cl_mk (ih.2.2) hm_members_of hk_members_of (F_members_of.binds fun _ _ _ _ _ _ us hl => match us, hl with | [_, _], _ => rfl)
    exact ⟨fn_dn (k := 1 + n) (ks := [0]) (g := G_normal (Lw.F_normal n) (Lw.F_joined n) (Lw.F_members_of n)) (N := sc_normalN) (ps := [(PySem.Str.ofString "condition")]) F_normal sc_normal 1 3 rfl rfl (fun cdv A outer s H E hr tk hp => by
      have hu := hr.units
      have hu5 := hr.units5
      exact (ss_cons (s_set (i := 1) sc_normal.nd rfl (Or.inl rfl) (d_ix ix_seq n_ix (p_b (pv 0)) (p_v d_int) (fun _ _ => rfl)))
  (ss_cons (s_if (c_cmp (o_eq hu) n_eq (p_b (pv 1)) (p_v d_str) (nomark _))
    (ss_one (s_ret (d_call (hk := by omega) c_joined hr tk (pa_c (p_b (pv 1)) (pa_c (p_v (d_sl10 (p_b (pv 0)) (p_v d_int))) (pa_c (p_v (d_gt (by rfl) g_ALWAYS)) (pa_c (p_v (d_gt (by rfl) g_NEVER)) pa_n)))))))
    ss_nil)
  (ss_cons (s_if (c_cmp (o_eq hu) n_eq (p_b (pv 1)) (p_v d_str) (nomark _))
    (ss_one (s_ret (d_call (hk := by omega) c_joined hr tk (pa_c (p_b (pv 1)) (pa_c (p_v (d_sl10 (p_b (pv 0)) (p_v d_int))) (pa_c (p_v (d_gt (by rfl) g_NEVER)) (pa_c (p_v (d_gt (by rfl) g_ALWAYS)) pa_n)))))))
    ss_nil)
  (ss_cons (s_if (c_cmp (o_ne hu) n_ne (p_b (pv 1)) (p_v d_str) (nomark _))
    (ss_one (s_ret (d_var (pv 0))))
    ss_nil)
  (ss_cons (s_set (i := 2) sc_normal.nd rfl (Or.inl rfl) (d_call (hk := by omega) c_normal hr tk (pa_c (p_v (d_ix ix_seq n_ix (p_b (pv 0)) (p_v d_int) (fun _ _ => rfl))) pa_n)))
  (ss_cons (s_if (c_cmp (o_eq hu) n_eq (p_b (pv 2)) (p_v (d_gt (by rfl) g_ALWAYS)) (nomark _))
    (ss_one (s_ret (d_gt (by rfl) g_NEVER)))
    ss_nil)
  (ss_cons (s_if (c_cmp (o_eq hu) n_eq (p_b (pv 2)) (p_v (d_gt (by rfl) g_NEVER)) (nomark _))
    (ss_one (s_ret (d_gt (by rfl) g_ALWAYS)))
    ss_nil)
  (ss_cons (s_if (c_cmp (o_eq hu) n_eq (p_v (d_ix ix_seq n_ix (p_b (pv 2)) (p_v d_int) (fun _ _ => rfl))) (p_v d_str) (nomark _))
    (ss_one (s_ret (d_ix ix_seq n_ix (p_b (pv 2)) (p_v d_int) (fun _ _ => rfl))))
    ss_nil)
  (ss_one (s_ret (d_tup (hn := by simp) (is_c d_str (is_c (d_var (pv 2)) is_n)))))))))))))),
      fn_dn (k := 1 + n) (ks := [0, 1, 2, 3]) (g := G_joined (Lw.F_normal n) (Lw.F_joined n) (Lw.F_members_of n)) (N := sc_joinedN) (ps := [(PySem.Str.ofString "word"), (PySem.Str.ofString "parts"), (PySem.Str.ofString "neutral"), (PySem.Str.ofString "final")]) F_joined sc_joined 4 6 rfl rfl (fun cdv A outer s H E hr tk hp => by
      have hu := hr.units
      have hu5 := hr.units5
      exact (ss_cons (s_set (i := 4) sc_joined.nd rfl (Or.inl rfl) (d_call (hk := by omega) c_members_of hr tk (pa_c (p_b (pv 0)) (pa_c (p_b (pv 1)) pa_n))))
  (ss_cons (s_if (c_cmp (o_in hu5) n_in (p_b (pv 3)) (p_b (pv 4)) (by rfl))
    (ss_one (s_ret (d_var (pv 3))))
    ss_nil)
  (ss_cons (s_setLc (i := 4) (own := [(PySem.Str.ofString "member", 5)]) rfl sc_joined.nd rfl rfl (sw_true rfl rfl rfl (by decide +kernel)) (i_seq (d_var (pv 4))) (blkOk_by (N := sc_joinedN) (sc := defScope s_joined) (by decide +kernel)) (fun _ _ _ _ _ => (pg_name (i := 5) sc_joined.nd rfl (Or.inl rfl))) (fun _ _ _ _ _ => (pts_1 (c_cmp (o_ne hu) n_ne (p_b (pv 5)) (p_b (pv 2)) (nomark _)))) (fun _ _ _ _ _ => (d_var (pv 5))) (by decide))
  (ss_cons (s_if (c_cmp (o_eq hu) n_eq (p_v (d_cb call_len n_len rfl m_len bt_len (pa_c (p_b (pv 4)) pa_n))) (p_v d_int) (nomark _))
    (ss_one (s_ret (d_var (pv 2))))
    ss_nil)
  (ss_cons (s_if (c_cmp (o_eq hu) n_eq (p_v (d_cb call_len n_len rfl m_len bt_len (pa_c (p_b (pv 4)) pa_n))) (p_v d_int) (nomark _))
    (ss_one (s_ret (d_ix ix_seq n_ix (p_b (pv 4)) (p_v d_int) (fun _ _ => rfl))))
    ss_nil)
  (ss_one (s_ret (d_op o_add n_add (p_v (d_tup (hn := by simp) (is_c (d_var (pv 0)) is_n))) (p_v (d_ct call_tuple_of n_tuple rfl m_tuple bt_tuple (pa_c (p_b (pv 4)) pa_n)))))))))))),
      fn_dn (k := 1 + n) (ks := [0, 1]) (g := G_members_of (Lw.F_normal n) (Lw.F_joined n) (Lw.F_members_of n)) (N := sc_members_ofN) (ps := [(PySem.Str.ofString "word"), (PySem.Str.ofString "parts")]) F_members_of sc_members_of 2 7 rfl rfl (fun cdv A outer s H E hr tk hp => by
      have hu := hr.units
      have hu5 := hr.units5
      exact (ss_cons (s_set (i := 2) sc_members_of.nd rfl (Or.inl rfl) (d_lst (hn := by simp) is_n))
  (ss_cons (s_for hp rfl (i_seq (d_var (pv 1))) (pg_name (i := 3) sc_members_of.nd rfl (Or.inl rfl))
    (ss_cons (s_set (i := 4) sc_members_of.nd rfl (Or.inl rfl) (d_call (hk := by omega) c_normal hr tk (pa_c (p_b (pv 3)) pa_n)))
  (ss_cons (s_set (i := 5) sc_members_of.nd rfl (Or.inl rfl) (d_tup (hn := by simp) (is_c (d_var (pv 4)) is_n)))
  (ss_cons (s_if (c_cmp (o_eq hu) n_eq (p_v (d_ix ix_seq n_ix (p_b (pv 4)) (p_v d_int) (fun _ _ => rfl))) (p_b (pv 0)) (nomark _))
    (ss_one (s_set (i := 5) sc_members_of.nd rfl (Or.inl rfl) (d_sl10 (p_b (pv 4)) (p_v d_int))))
    ss_nil)
  (ss_one (s_for hp rfl (i_seq (d_var (pv 5))) (pg_name (i := 6) sc_members_of.nd rfl (Or.inl rfl))
    (ss_one (s_if (c_cmp (o_notin hu5) n_notin (p_b (pv 6)) (p_b (pv 2)) (by rfl))
    (ss_one (s_drop (d_mut1 (pv 2) PySem.F.slot_list_append PySem.F.type_list_append mt_append u_app (d_var (pv 6)))))
    ss_nil)) (by decide)))))) (by decide))
  (ss_one (s_ret (d_move (pv 2)))))))⟩
set_option maxHeartbeats 8000000 in
theorem ok__law_is_normal {a__law_is_normal : Addr} {d__law_is_normal : FuncData} (F__law_is_normal : Fun K "_law_is_normal" "_law_is_normal" s__law_is_normal a__law_is_normal d__law_is_normal) (hm__law_is_normal : mg "_law_is_normal" = some (.ref a__law_is_normal)) (hk__law_is_normal : PySem.W.keepIn K (.ref a__law_is_normal) = true) (m_len : mg "len" = none) (m_range : mg "range" = none) : ∀ n : Nat, FnOk P w K mg base (L2.CX P w) (1 + n) a__law_is_normal d__law_is_normal [(PySem.Str.ofString "_law_form")] (spD K mg 1 (Lw.F__law_is_normal n))
  | 0 => fn_none rfl
  | n + 1 => by
    have ih := ok__law_is_normal F__law_is_normal hm__law_is_normal hk__law_is_normal m_len m_range n
    have c__law_is_normal : Cl P w K mg base (1 + n) "_law_is_normal" 1 (Lw.F__law_is_normal n) [] := cl_mk (ih) hm__law_is_normal hk__law_is_normal (F__law_is_normal.binds fun _ _ _ _ _ _ us hl => match us, hl with | [_], _ => rfl)
    exact fn_dn (k := 1 + n) (ks := [0]) (g := G__law_is_normal (Lw.F__law_is_normal n)) (N := sc__law_is_normalN) (ps := [(PySem.Str.ofString "_law_form")]) F__law_is_normal sc__law_is_normal 1 3 rfl rfl (fun cdv A outer s H E hr tk hp => by
      have hu := hr.units
      have hu5 := hr.units5
      exact (ss_cons (s_set (i := 1) sc__law_is_normal.nd rfl (Or.inl rfl) (d_ix ix_seq n_ix (p_b (pv 0)) (p_v d_int) (fun _ _ => rfl)))
  (ss_cons (s_if (c_cmp (o_eq hu) n_eq (p_b (pv 1)) (p_v d_str) (nomark _))
    (ss_one (s_ret (d_and (d_cmp (o_notin hu5) n_notin (p_v (d_ix ix_seq n_ix (p_v (d_ix ix_seq n_ix (p_b (pv 0)) (p_v d_int) (fun _ _ => rfl))) (p_v d_int) (fun _ _ => rfl))) (p_v (d_lst (hn := by simp) (is_c d_str (is_c d_str (is_c d_str is_n))))) (by rfl)) (d_one (d_call (hk := by omega) c__law_is_normal hr tk (pa_c (p_v (d_ix ix_seq n_ix (p_b (pv 0)) (p_v d_int) (fun _ _ => rfl))) pa_n))))))
    ss_nil)
  (ss_cons (s_if (c_w (w_and (c_cmp (o_ne hu) n_ne (p_b (pv 1)) (p_v d_str) (nomark _)) (w_one (c_cmp (o_ne hu) n_ne (p_b (pv 1)) (p_v d_str) (nomark _)))))
    (ss_one (s_ret d_bl))
    ss_nil)
  (ss_cons (s_if (c_cmp (o_ltX hu) n_ltX (p_v (d_cb call_len n_len rfl m_len bt_len (pa_c (p_b (pv 0)) pa_n))) (p_v d_int) (nomark _))
    (ss_one (s_ret d_bl))
    ss_nil)
  (ss_cons (s_for hp rfl (i_rng2 rfl m_range (pa_c (p_v d_int) (pa_c (p_v (d_cb call_len n_len rfl m_len bt_len (pa_c (p_b (pv 0)) pa_n))) pa_n))) (pg_name (i := 2) sc__law_is_normal.nd rfl (Or.inl rfl))
    (ss_one (s_if (c_w (w_or (c_cmp (o_in hu5) n_in (p_v (d_ix ix_seq n_ix (p_b (pv 0)) (p_b (pv 2)) (fun _ _ => rfl))) (p_v (d_sl11 (p_b (pv 0)) d_int (d_var (pv 2)))) (by rfl)) (w_or (c_cmp (o_in hu5) n_in (p_v (d_ix ix_seq n_ix (p_v (d_ix ix_seq n_ix (p_b (pv 0)) (p_b (pv 2)) (fun _ _ => rfl))) (p_v d_int) (fun _ _ => rfl))) (p_v (d_lst (hn := by simp) (is_c (d_var (pv 1)) (is_c d_str (is_c d_str is_n))))) (by rfl)) (w_one (c_not (c_tst (d_call (hk := by omega) c__law_is_normal hr tk (pa_c (p_v (d_ix ix_seq n_ix (p_b (pv 0)) (p_b (pv 2)) (fun _ _ => rfl))) pa_n))))))))
    (ss_one (s_ret d_bl))
    ss_nil)) (by decide))
  (ss_one (s_ret d_bl))))))))
set_option maxHeartbeats 4000000 in
theorem ok_law {f : Addr} {fd : FuncData} (F : Fun K "law" "law" s_law f fd) (c__law_condition : Cl P w K mg base 45 "_law_condition" 4 F__law_condition []) (c__law_deck : Cl P w K mg base 1 "_law_deck" 1 F__law_deck []) (c__law_draw : Cl P w K mg base 1 "_law_draw" 2 F__law_draw []) (c__law_is_normal : Cl P w K mg base 41 "_law_is_normal" 1 (Lw.F__law_is_normal 40) []) (c__law_names : Cl P w K mg base 4 "_law_names" 3 F__law_names []) (c__law_normal : Cl P w K mg base 41 "_law_normal" 1 (Lw.F__law_normal 40) []) (c_normal : Cl P w K mg base 41 "normal" 1 (Lw.F_normal 40) []) (m_isinstance : mg "isinstance" = none) (m_tuple : mg "tuple" = none) : FnOk P w K mg base (L2.CX P w) 46 f fd [(PySem.Str.ofString "_law_script")] (spD K mg 1 F_law) :=
  fn_dn (k := 45) (ks := [0]) (g := G_law) (N := sc_lawN) (ps := [(PySem.Str.ofString "_law_script")]) F sc_law 1 8 rfl rfl (fun cdv A outer s H E hr tk hp => by
    have hu := hr.units
    have hu5 := hr.units5
    exact (ss_cons (s_set (i := 1) sc_law.nd rfl (Or.inl rfl) (d_call c__law_deck hr tk (pa_c (p_b (pv 0)) pa_n)))
  (ss_cons (s_set (i := 2) sc_law.nd rfl (Or.inl rfl) (d_call c__law_names hr tk (pa_c (p_b (pv 1)) (pa_c (p_v (d_op o_add n_add (p_v d_int) (p_v (d_call c__law_draw hr tk (pa_c (p_b (pv 1)) (pa_c (p_v d_int) pa_n)))))) (pa_c (p_v (d_lst (is_c d_str is_n))) pa_n)))))
  (ss_cons (s_set (i := 3) sc_law.nd rfl (Or.inl rfl) (d_sl01 (p_b (pv 2)) (p_v (d_call c__law_draw hr tk (pa_c (p_b (pv 1)) (pa_c (p_v d_int) pa_n))))))
  (ss_cons (s_set (i := 4) sc_law.nd rfl (Or.inl rfl) (d_call c__law_condition hr tk (pa_c (p_b (pv 1)) (pa_c (p_b (pv 2)) (pa_c (p_b (pv 3)) (pa_c (p_v d_int) pa_n))))))
  (ss_cons (s_set (i := 5) sc_law.nd rfl (Or.inl rfl) (d_call c__law_normal hr tk (pa_c (p_b (pv 4)) pa_n)))
  (ss_cons (s_for hp rfl (i_seq (d_lst (is_c (d_var (pv 4)) (is_c (d_var (pv 5)) (is_c (d_var (pv 4)) is_n))))) (pg_name (i := 6) sc_law.nd rfl (Or.inl rfl))
    (ss_cons (s_set (i := 7) sc_law.nd rfl (Or.inl rfl) (d_call c_normal hr tk (pa_c (p_b (pv 6)) pa_n)))
  (ss_one (s_if (c_w (w_or (c_not (c_tst (d_isi rfl m_isinstance rfl m_tuple bt_tuple bt_isinstance (p_b (pv 7))))) (w_or (c_cmp (o_ne hu) n_ne (p_b (pv 7)) (p_b (pv 5)) (nomark _)) (w_one (c_not (c_tst (d_call c__law_is_normal hr tk (pa_c (p_b (pv 7)) pa_n))))))))
    (ss_one (s_ret d_bl))
    ss_nil))) (by decide))
  (ss_one (s_ret d_bl)))))))))
end
local macro_rules | `(tactic| walk_at "ev") => `(tactic| simp [mkF_e, finR_ret, finR_next, finR_ex, FEv_fin, finO_n, finO_c, sSeq_a, sIf_a, sRet_a, sSet_a, sDrop_a, sFor_a, sNext_a, sBrk_a, sCnt_a, tst_a, cAnd_a, cOr_a, cNot_a, ap_a, ops_n, ops_b, ops_v, eC_a, eVar_a, eMove_a, eFz_a, eIf_a, eAnd_a, eOr_a, eNot_a, items_n, items_c, eTup_a, eLst_a, pure_a, stuck_a, bind_a, eCall_e, callR_ok, callR_ex, Ev_callR, cops_n, cops_b, cops_v, wb, thn_ok, thn_ex, thn_none, ↓Ev_d, ↓FEv_d, Ev_thn, Ev_ok, Ev_ex, Ev_none, FEv_ok, FEv_ex, FEv_none, getO_nil, getO_0, getO_0n, getO_s, gAdd_i, gAdd_z, gAdd_l, gAdd_t, gAddI_i, gSub_i, gMul_i, gMulS_q, gDiv_i, gMod_i, gPow_i, gNeg_i, gEq_i, gEq_z, gEq_b, gNe_i, gNe_z, gNe_b, gEq_l, gEq_t, gEq_s, gEq_n, gNe_l, gNe_t, gNe_s, gNe_n, gLt_i, gLtX_i, gLtX_z, gLtX_t, gLtX_l, gGt_i, gLe_i, gGe_i, gLt_t, gGt_t, gLe_t, gGe_t, gLt_l, gGt_l, gLe_l, gGe_l, gLt_z, gGt_z, gLe_z, gGe_z, gIsN_n, gIsN_b, gIsN_i, gIsN_z, gIsN_l, gIsN_t, gIsN_s, gIsN_bb, gNotN_n, gNotN_b, gNotN_i, gNotN_z, gNotN_l, gNotN_t, gNotN_s, gNotN_bb, gIn_z, gIn_l, gIn_t, gNotIn_z, gNotIn_l, gNotIn_t, gIx_l, gIx_t, gIx_s, gIx_z, gLen_l, gLen_t, gLen_s, gLen_z, gInt_i, gInt_b, gOrd_1, gListX_z, gListX_l, gListX_t, gListX_s, gList_l, gList_t, gList_s, gTuple_l, gTuple_t, gApp_q, gPop_q, gPop0_q, gExt_q, gRev_q, gIsi_q, gSl00, gSl10, gSl01, gSl11, slD_l, slD_t, slD_s, slD_z, gRevS_l, gCount_z, gStarts_z, gRstrip_z, seqD_l, seqD_t, seqD_s, seqD_z, sRng1_e, sRng2_e, rgR1_q, rgR2_q, sSeqD_a, isStr, sEnum_a, eComp_e, lcR_ok, Ev_lcR, wipeE_n, wipeE_c, restE_n, restE_c, eMut1_a, eMut0_a, sSetIx_a, eChain_a, tru_a, sAug_a, sSetT_a, apM_b, apM_v, eI_a, Tg.go, gMax2_i, gMin2_i, gIns0_q, gStr1_i, gAbs_i, truD_bl, truD_l, truD_t, gEq_iz, gEq_zi, gNe_iz, gNe_zi, atI_c0, atI_c1, atI_c2, atI_c3, atI_c4, atI_c5, isi_int_non, isi_int_bl, isi_int_int, isi_int_str, isi_int_lst, isi_int_scr, isi_int_tup, isi_bool_non, isi_bool_bl, isi_bool_int, isi_bool_str, isi_bool_lst, isi_bool_scr, isi_bool_tup, isi_str_non, isi_str_bl, isi_str_int, isi_str_str, isi_str_lst, isi_str_scr, isi_str_tup, isi_list_non, isi_list_bl, isi_list_int, isi_list_str, isi_list_lst, isi_list_scr, isi_list_tup, isi_tuple_non, isi_tuple_bl, isi_tuple_int, isi_tuple_str, isi_tuple_lst, isi_tuple_scr, isi_tuple_tup, isLst, gLCount_s, sRaise_a, sRaise0_a, Ev_sTry, HandP_t, HandP_f, eXf_p, eXf_w, eXi_a, *])
local macro_rules | `(tactic| walk_at "evs") => `(tactic| simp only [mkF_e, finR_ret, finR_next, finR_ex, FEv_fin, finO_n, finO_c, sSeq_a, sIf_a, sRet_a, sSet_a, sDrop_a, sFor_a, sNext_a, sBrk_a, sCnt_a, tst_a, cAnd_a, cOr_a, cNot_a, ap_a, ops_n, ops_b, ops_v, eC_a, eVar_a, eMove_a, eFz_a, eIf_a, eAnd_a, eOr_a, eNot_a, items_n, items_c, eTup_a, eLst_a, pure_a, stuck_a, bind_a, eCall_e, callR_ok, callR_ex, Ev_callR, cops_n, cops_b, cops_v, wb, thn_ok, thn_ex, thn_none, ↓Ev_d, ↓FEv_d, Ev_thn, Ev_ok, Ev_ex, Ev_none, FEv_ok, FEv_ex, FEv_none, getO_nil, getO_0, getO_0n, getO_s, gAdd_i, gAdd_z, gAdd_l, gAdd_t, gAddI_i, gSub_i, gMul_i, gMulS_q, gDiv_i, gMod_i, gPow_i, gNeg_i, gEq_i, gEq_z, gEq_b, gNe_i, gNe_z, gNe_b, gEq_l, gEq_t, gEq_s, gEq_n, gNe_l, gNe_t, gNe_s, gNe_n, gLt_i, gLtX_i, gLtX_z, gLtX_t, gLtX_l, gGt_i, gLe_i, gGe_i, gLt_t, gGt_t, gLe_t, gGe_t, gLt_l, gGt_l, gLe_l, gGe_l, gLt_z, gGt_z, gLe_z, gGe_z, gIsN_n, gIsN_b, gIsN_i, gIsN_z, gIsN_l, gIsN_t, gIsN_s, gIsN_bb, gNotN_n, gNotN_b, gNotN_i, gNotN_z, gNotN_l, gNotN_t, gNotN_s, gNotN_bb, gIn_z, gIn_l, gIn_t, gNotIn_z, gNotIn_l, gNotIn_t, gIx_l, gIx_t, gIx_s, gIx_z, gLen_l, gLen_t, gLen_s, gLen_z, gInt_i, gInt_b, gOrd_1, gListX_z, gListX_l, gListX_t, gListX_s, gList_l, gList_t, gList_s, gTuple_l, gTuple_t, gApp_q, gPop_q, gPop0_q, gExt_q, gRev_q, gIsi_q, gSl00, gSl10, gSl01, gSl11, slD_l, slD_t, slD_s, slD_z, gRevS_l, gCount_z, gStarts_z, gRstrip_z, seqD_l, seqD_t, seqD_s, seqD_z, sRng1_e, sRng2_e, rgR1_q, rgR2_q, sSeqD_a, isStr, sEnum_a, eComp_e, lcR_ok, Ev_lcR, wipeE_n, wipeE_c, restE_n, restE_c, eMut1_a, eMut0_a, sSetIx_a, eChain_a, tru_a, sAug_a, sSetT_a, apM_b, apM_v, eI_a, Tg.go, gMax2_i, gMin2_i, gIns0_q, gStr1_i, gAbs_i, truD_bl, truD_l, truD_t, gEq_iz, gEq_zi, gNe_iz, gNe_zi, atI_c0, atI_c1, atI_c2, atI_c3, atI_c4, atI_c5, isi_int_non, isi_int_bl, isi_int_int, isi_int_str, isi_int_lst, isi_int_scr, isi_int_tup, isi_bool_non, isi_bool_bl, isi_bool_int, isi_bool_str, isi_bool_lst, isi_bool_scr, isi_bool_tup, isi_str_non, isi_str_bl, isi_str_int, isi_str_str, isi_str_lst, isi_str_scr, isi_str_tup, isi_list_non, isi_list_bl, isi_list_int, isi_list_str, isi_list_lst, isi_list_scr, isi_list_tup, isi_tuple_non, isi_tuple_bl, isi_tuple_int, isi_tuple_str, isi_tuple_lst, isi_tuple_scr, isi_tuple_tup, isLst, gLCount_s, sRaise_a, sRaise0_a, Ev_sTry, HandP_t, HandP_f, eXf_p, eXf_w, eXi_a])
theorem abc_zl : zl (PySem.Str.ofString "abcdefghijklmnopqrstuvwxyz") = [97, 98, 99, 100, 101, 102, 103, 104, 105, 106, 107, 108, 109, 110, 111, 112, 113, 114, 115, 116, 117, 118, 119, 120, 121, 122] := by decide +kernel
theorem abc_len : (PySem.Str.ofString "abcdefghijklmnopqrstuvwxyz").length = 26 := by decide +kernel
theorem abc_at {r : Int} (h0 : 0 ≤ r) (h1 : r < 26) : atI (PySem.Str.ofString "abcdefghijklmnopqrstuvwxyz").cps.toList r = some (97 + r.toNat) := by
  obtain ⟨n, rfl⟩ := Int.eq_ofNat_of_zero_le h0
  have h2 : n < 26 := by omega
  have e : (PySem.Str.ofString "abcdefghijklmnopqrstuvwxyz").cps.toList = _ := abc_zl
  rw [e, atI_nat' (by omega) (by show (n : Int) < 26; omega)]
  clear h0 h1
  revert n
  decide
def LtrZ (z : Str) : Prop := ∀ c ∈ zl z, 97 ≤ c ∧ c ≤ 122
theorem LtrZ.ok {z : Str} (h : LtrZ z) : ∀ c ∈ zl z, c < 1114112 := fun c hc => by have := h c hc; omega
/-- a row of one-sign texts that are letters -/
def LtRow (xs : List D) : Prop := ∃ cs : List Nat, xs = cs.map (fun c => D.str (one c)) ∧ ∀ c ∈ cs, 97 ≤ c ∧ c ≤ 122
theorem ltRow_of : ∀ (xs : List D), (∀ x ∈ xs, ∃ c, x = D.str (one c) ∧ 97 ≤ c ∧ c ≤ 122) → LtRow xs
  | [], _ => ⟨[], rfl, fun c h => (List.not_mem_nil h).elim⟩
  | x :: xs, h => by
    obtain ⟨c, rfl, hc⟩ := h x List.mem_cons_self
    obtain ⟨cs, rfl, hcs⟩ := ltRow_of xs fun y hy => h y (List.mem_cons_of_mem _ hy)
    refine ⟨c :: cs, rfl, fun d hd => ?_⟩
    rcases List.mem_cons.mp hd with rfl | hd
    · exact hc
    · exact hcs d hd
theorem LtRow.join {xs : List D} (h : LtRow xs) (hl : xs.length ≤ 1000) : ∃ z : Str, gJoin [.str (PySem.Str.ofString ""), .lst xs] = some (sO z) ∧ LtrZ z ∧ z.length = xs.length := by
  obtain ⟨cs, rfl, hcs⟩ := h
  rw [List.length_map] at hl
  exact ⟨⟨cs.toArray⟩, gJoin_ones (by omega), hcs, by rw [len_mk, List.length_map]⟩
/-- the deck that is drawn from -/
structure Dk where
  c0 : Int
  i : Int
  seed : Int
  ss : List Int
  c4 : Int
  hi : 0 ≤ i
def dkL (k : Dk) : List D := [.int k.c0, .int k.i, .int k.seed, .lst (k.ss.map .int), .int k.c4]
def dk (k : Dk) : O := .lst (dkL k)
def Dk.s4 (k : Dk) (v : Int) : Dk := ⟨k.c0, k.i, k.seed, k.ss, v, k.hi⟩
theorem dk_e (k : Dk) : dk k = .lst [.int k.c0, .int k.i, .int k.seed, .lst (k.ss.map .int), .int k.c4] := rfl
theorem dk_d (k : Dk) : (dk k).d = .lst [.int k.c0, .int k.i, .int k.seed, .lst (k.ss.map .int), .int k.c4] := rfl
theorem ix5_0 {n : Nat} : ixN (n + 5) 0 = some 0 := ixN_nat (by omega) (by omega)
theorem ix5_1 {n : Nat} : ixN (n + 5) 1 = some 1 := ixN_nat (by omega) (by omega)
theorem ix5_2 {n : Nat} : ixN (n + 5) 2 = some 2 := ixN_nat (by omega) (by omega)
theorem ix5_4 {n : Nat} : ixN (n + 5) 4 = some 4 := ixN_nat (by omega) (by omega)
theorem deck_ok (ns : List Int) : ∃ k, F__law_deck [.fr (.scr ns)] = some (.ok (dk k) [.fr (.scr ns)]) := by
  have H : FEv (F__law_deck [.fr (.scr ns)]) (@hq _ _ ⟨fun o os => (∃ k, o = dk k) ∧ os = [.fr (.scr ns)]⟩) (fun _ _ => False) := by
    unfold F__law_deck G__law_deck
    walk_at "ev"
    refine Ev_forP (f := D.int) (fun done e => @Dn.hb _ ⟨fun e => ∃ (s : Int) (q : Option O), e = [some (.fr (.scr ns)), some (iO s), q]⟩ e) _ ns [] _ ⟨_, _, rfl⟩ ?_ ?_
    · rintro pre x post e he ⟨s, q, rfl⟩
      refine ⟨_, rfl, ?_⟩
      have m1 : mulOk s 48271 = true := mul_small' (by omega)
      unfold B__law_deck_0
      clear he
      walk_at "ev"
      exact hbi ⟨_, _, rfl⟩
    · rintro e ⟨s, q, rfl⟩
      walk_at "ev"
      exact hqi ⟨⟨⟨0, 0, s, ns, 19, Int.le_refl _⟩, rfl⟩, rfl⟩
  obtain ⟨o, os, h, ⟨k, rfl⟩, rfl⟩ := H.get
  exact ⟨k, h⟩
theorem draw_ex (k : Dk) (b : Int) (hb : 0 < b) (hb2 : b < 1000000) : ∃ v k', F__law_draw [dk k, .fr (.int b)] = some (.ok (iO v) [dk k', .fr (.int b)]) ∧ 0 ≤ v ∧ v < b ∧ k'.c4 = k.c4 := by
  have H : FEv (F__law_draw [dk k, .fr (.int b)]) (@hq _ _ ⟨fun o os => ∃ v k', o = iO v ∧ os = [dk k', .fr (.int b)] ∧ 0 ≤ v ∧ v < b ∧ k'.c4 = k.c4⟩) (fun _ _ => False) := by
    have hne : ¬ b = 0 := by omega
    have hna : b.natAbs < 1073741824 := by omega
    have hbd : ∀ x : Int, 0 ≤ x.fmod b ∧ x.fmod b < b := fun x => fm_bd hb
    have m1 : mulOk k.seed 48271 = true := mul_small' (by omega)
    have hde := dk_e k
    have e0 := @ix5_0 0
    have e1 := @ix5_1 0
    have e2 := @ix5_2 0
    have hi := k.hi
    unfold F__law_draw G__law_draw
    by_cases h0 : k.c0 = 0
    · by_cases h1 : k.i < k.ss.length
      · obtain ⟨x, hx, _⟩ := atI_some (xs := k.ss.map D.int) (i := k.i) hi (by rw [List.length_map]; exact h1)
        have hxi : ∃ j, x = .int j := by
          rename_i hm
          obtain ⟨j, _, rfl⟩ := List.mem_map.mp hm
          exact ⟨j, rfl⟩
        obtain ⟨j, rfl⟩ := hxi
        obtain ⟨a, ha⟩ : ∃ a, gAbs [.int j] = some (iO a) := ⟨_, gAbs_i⟩
        have hb3 := hbd a
        have fin : ∃ k' : Dk, dk k' = .lst [.int (a.fdiv b), .int (k.i + 1), .int k.seed, .lst (k.ss.map .int), .int k.c4] ∧ k'.c4 = k.c4 := ⟨⟨_, _, _, _, _, by omega⟩, rfl, rfl⟩
        clear hbd
        walk_at "ev"
        obtain ⟨k', f1, f2⟩ := fin
        exact hqi ⟨_, k', rfl, by rw [f1], hb3.1, hb3.2, f2⟩
      · have hb3 := hbd (((k.seed * 48271 + 11).fmod 2147483647).fdiv 5)
        have fin : ∃ k' : Dk, dk k' = .lst [.int ((((k.seed * 48271 + 11).fmod 2147483647).fdiv 5).fdiv b), .int k.i, .int ((k.seed * 48271 + 11).fmod 2147483647), .lst (k.ss.map .int), .int k.c4] ∧ k'.c4 = k.c4 := ⟨⟨_, _, _, _, _, hi⟩, rfl, rfl⟩
        clear hbd
        walk_at "ev"
        obtain ⟨k', f1, f2⟩ := fin
        exact hqi ⟨_, k', rfl, by rw [f1], hb3.1, hb3.2, f2⟩
    · have hb3 := hbd k.c0
      have fin : ∃ k' : Dk, dk k' = .lst [.int (k.c0.fdiv b), .int k.i, .int k.seed, .lst (k.ss.map .int), .int k.c4] ∧ k'.c4 = k.c4 := ⟨⟨_, _, _, _, _, hi⟩, rfl, rfl⟩
      clear hbd
      walk_at "ev"
      obtain ⟨k', f1, f2⟩ := fin
      exact hqi ⟨_, k', rfl, by rw [f1], hb3.1, hb3.2, f2⟩
  obtain ⟨o, os, h, v, k', rfl, rfl, h1⟩ := H.get
  exact ⟨v, k', h, h1⟩
open Classical in
noncomputable def dV (k : Dk) (b : Int) : Int := if h : 0 < b ∧ b < 1000000 then (draw_ex k b h.1 h.2).choose else 0
open Classical in
noncomputable def dN (k : Dk) (b : Int) : Dk := if h : 0 < b ∧ b < 1000000 then (draw_ex k b h.1 h.2).choose_spec.choose else k
theorem draw_ok (k : Dk) (b : Int) (hb : 0 < b) (hb2 : b < 1000000) : F__law_draw [dk k, .fr (.int b)] = some (.ok (iO (dV k b)) [dk (dN k b), .fr (.int b)]) := by
  unfold dV dN
  rw [dif_pos ⟨hb, hb2⟩, dif_pos ⟨hb, hb2⟩]
  exact (draw_ex k b hb hb2).choose_spec.choose_spec.1
theorem draw_bd (k : Dk) {b : Int} (hb : 0 < b) (hb2 : b < 1000000) : 0 ≤ dV k b ∧ dV k b < b := by
  unfold dV
  rw [dif_pos ⟨hb, hb2⟩]
  exact ⟨(draw_ex k b hb hb2).choose_spec.choose_spec.2.1, (draw_ex k b hb hb2).choose_spec.choose_spec.2.2.1⟩
theorem draw_c4 (k : Dk) (b : Int) : (dN k b).c4 = k.c4 := by
  unfold dN
  split
  · rename_i h; exact (draw_ex k b h.1 h.2).choose_spec.choose_spec.2.2.2
  · rfl
theorem dletter_ex (k : Dk) : ∃ c k', F__law_letter [dk k] = some (.ok (sO (one c)) [dk k']) ∧ (97 ≤ c ∧ c ≤ 122) ∧ k'.c4 = k.c4 := by
  have H : FEv (F__law_letter [dk k]) (@hq _ _ ⟨fun o os => ∃ c k', o = sO (one c) ∧ os = [dk k'] ∧ (97 ≤ c ∧ c ≤ 122) ∧ k'.c4 = k.c4⟩) (fun _ _ => False) := by
    have dr := draw_ok
    have ab2 : (PySem.Str.ofString "ab").length ≤ sizeLine := sz_of (by decide +kernel)
    have hs : (PySem.Str.ofString "abcdefghijklmnopqrstuvwxyz").length ≤ sizeLine := sz_of (by rw [abc_len]; omega)
    unfold F__law_letter G__law_letter
    by_cases h : dV k 2 = 0
    · have bd := draw_bd (dN k 2) (b := 2) (by omega) (by omega)
      have hz : (PySem.Str.ofString "ab").cps.toList = [97, 98] := by decide +kernel
      have hab : ∃ c, atI (PySem.Str.ofString "ab").cps.toList (dV (dN k 2) 2) = some c ∧ 97 ≤ c ∧ c ≤ 122 := by
        rw [hz]
        have : dV (dN k 2) 2 = 0 ∨ dV (dN k 2) 2 = 1 := by omega
        rcases this with h | h
        · rw [h]; exact ⟨97, rfl, by omega, by omega⟩
        · rw [h]; exact ⟨98, rfl, by omega, by omega⟩
      obtain ⟨c, h1, h2⟩ := hab
      clear hz
      walk_at "ev"
      exact hqi ⟨c, _, rfl, rfl, h2, by rw [draw_c4, draw_c4]⟩
    · have bd := draw_bd (dN k 2) (b := 26) (by omega) (by omega)
      have ha := abc_at bd.1 bd.2
      walk_at "ev"
      exact hqi ⟨_, _, rfl, rfl, by omega, by rw [draw_c4, draw_c4]⟩
  obtain ⟨o, os, h, c, k', rfl, rfl, h1⟩ := H.get
  exact ⟨c, k', h, h1⟩
noncomputable def lV (k : Dk) : Nat := (dletter_ex k).choose
noncomputable def lN (k : Dk) : Dk := (dletter_ex k).choose_spec.choose
theorem letter_ok (k : Dk) : F__law_letter [dk k] = some (.ok (sO (one (lV k))) [dk (lN k)]) := (dletter_ex k).choose_spec.choose_spec.1
theorem letter_bd (k : Dk) : 97 ≤ lV k ∧ lV k ≤ 122 := (dletter_ex k).choose_spec.choose_spec.2.1
theorem letter_c4 (k : Dk) : (lN k).c4 = k.c4 := (dletter_ex k).choose_spec.choose_spec.2.2
/-- letters from the deck, one by one -/
theorem dltr_comp (rest : Sl) (C : M O) (j : Nat) (hC : ∀ k (d : D), ∃ e1, (Tg.n j).go d (some (dk k) :: rest) = some e1 ∧ Ev (C e1) (fun o e3 => o.d = .str (one (lV k)) ∧ wipeE e3 [j] = some (dk (lN k)) :: rest) (fun _ _ => False)) (k : Dk) (n : Int) (h0 : 0 ≤ n) (h1 : n ≤ 1000) :
    ∃ z k', lcL [j] (.n j) cYes C (rngD 0 n) [] (some (dk k) :: rest) = some ((zl z).map fun c => D.str (one c), some (dk k') :: rest) ∧ LtrZ z ∧ (z.length : Int) = n ∧ k'.c4 = k.c4 := by
  obtain ⟨xs, e', c1, c2, cs, k', rfl, rfl, c3, c4⟩ := lc_acc (own := [j]) (tg := .n j) (f := C) (fun acc e => ∃ (cs : List Nat) (k' : Dk), acc = cs.map (fun c => D.str (one c)) ∧ e = some (dk k') :: rest ∧ (∀ c ∈ cs, 97 ≤ c ∧ c ≤ 122) ∧ k'.c4 = k.c4) (rngD 0 n) (some (dk k) :: rest) (by rw [rngD_len]; omega) (fun d _ acc e ⟨cs, k1, e1, e2, e3, e4⟩ => by
    subst e1 e2
    obtain ⟨e1, g1, g2⟩ := hC k1 d
    refine ⟨e1, g1, g2.mono (fun o e3' ⟨q1, q2⟩ => ⟨cs ++ [lV k1], lN k1, by rw [List.map_append, q1]; rfl, q2, fun c hc => ?_, by rw [letter_c4, e4]⟩) (fun _ _ z => z)⟩
    rcases List.mem_append.mp hc with hc | hc
    · exact e3 c hc
    · rw [List.mem_singleton.mp hc]; exact letter_bd k1) ⟨[], k, rfl, rfl, fun c h => (List.not_mem_nil h).elim, rfl⟩
  rw [List.length_map, rngD_len] at c2
  exact ⟨⟨cs.toArray⟩, k', c1, c3, by rw [len_mk]; omega, c4⟩
theorem dtext_ex (k : Dk) (m : Int) (hm : 0 ≤ m) (hm2 : m ≤ 100) : ∃ z k', F__law_text [dk k, .fr (.int m)] = some (.ok (sO z) [dk k', .fr (.int m)]) ∧ LtrZ z ∧ (z.length : Int) ≤ m ∧ k'.c4 = k.c4 := by
  have H : FEv (F__law_text [dk k, .fr (.int m)]) (@hq _ _ ⟨fun o os => ∃ z k', o = sO z ∧ os = [dk k', .fr (.int m)] ∧ LtrZ z ∧ (z.length : Int) ≤ m ∧ k'.c4 = k.c4⟩) (fun _ _ => False) := by
    have dr := draw_ok k (m + 1) (by omega) (by omega)
    have bd := draw_bd k (b := m + 1) (by omega) (by omega)
    have ri : inR (dV k (m + 1)) = true := inR_pos bd.1 (by omega)
    have lt := letter_ok
    obtain ⟨z, k', c1, c2, c3, c4⟩ := dltr_comp [some (iO m), some (iO (dV k (m + 1))), none] C__law_text_0 3 (fun k d => ⟨_, rfl, by
      unfold C__law_text_0
      walk_at "ev"⟩) (dN k (m + 1)) (dV k (m + 1)) bd.1 (by omega)
    have hj := gJoin_ones (cs := zl z) (by have : (zl z).length = z.length := rfl; omega)
    have hz : (⟨(zl z).toArray⟩ : Str) = z := zl_inj (zl_mk _)
    rw [hz] at hj
    have c5 : k'.c4 = k.c4 := by rw [c4, draw_c4]
    have c6 : (z.length : Int) ≤ m := by omega
    unfold F__law_text G__law_text
    clear bd c3 c4 hz
    walk_at "ev"
    exact hqi ⟨z, k', rfl, rfl, c2, c6, c5⟩
  obtain ⟨o, os, h, z, k', rfl, rfl, h1⟩ := H.get
  exact ⟨z, k', h, h1⟩
/-- a name: letters, one to 18 -/
def IsNm (z : Str) : Prop := LtrZ z ∧ 1 ≤ z.length ∧ z.length ≤ 20
theorem strs_shp (zs : List Str) (h : ∀ z ∈ zs, LtrZ z) : shp (.lst (zs.map .str)) = true := (shp_lst (k := 0) fun x hx => let ⟨z, hz, e⟩ := List.mem_map.mp hx; e ▸ shp_str (h z hz).ok).shp (by omega)
theorem dnames_ex (k : Dk) (n : Int) (hn : 0 ≤ n) (hn2 : n ≤ 100) (bs : List Str) (hbs : ∀ z ∈ bs, LtrZ z) : ∃ (nms : List Str) (k' : Dk), F__law_names [dk k, .fr (.int n), .fr (.lst (bs.map .str))] = some (.ok (.lst (nms.map .str)) [dk k', .fr (.int n), .fr (.lst (bs.map .str))]) ∧ (∀ z ∈ nms, IsNm z) ∧ (nms.length : Int) = n := by
  have H : FEv (F__law_names [dk k, .fr (.int n), .fr (.lst (bs.map .str))]) (@hq _ _ ⟨fun o os => ∃ (nms : List Str) (k' : Dk), o = .lst (nms.map .str) ∧ os = [dk k', .fr (.int n), .fr (.lst (bs.map .str))] ∧ (∀ z ∈ nms, IsNm z) ∧ (nms.length : Int) = n⟩) (fun _ _ => False) := by
    have ri : inR n = true := inR_pos hn (by omega)
    have r9 : inR 9 = true := by decide
    have sb := strs_shp bs hbs
    have lt := letter_ok
    have hs26 : (PySem.Str.ofString "abcdefghijklmnopqrstuvwxyz").length ≤ sizeLine := sz_of (by rw [abc_len]; omega)
    unfold F__law_names G__law_names
    walk_at "ev"
    refine Ev_forL (fun i e => @Dn.hb _ ⟨fun e => ∃ (nms : List Str) (k' : Dk) (q4 q5 q6 : Option O), e = [some (dk k'), some (iO n), some (.fr (.lst (bs.map .str))), some (.lst (nms.map .str)), q4, q5, q6] ∧ (∀ z ∈ nms, IsNm z) ∧ nms.length = i⟩ e) _ (rngD 0 n) _ ⟨[], _, _, _, _, rfl, fun z h => (List.not_mem_nil h).elim, rfl⟩ ?_ ?_
    · rintro i d e hd ⟨nms, k', q4, q5, q6, rfl, hN, hlen⟩
      obtain ⟨rfl, hi⟩ := rng0_get hd
      refine ⟨_, rfl, ?_⟩
      obtain ⟨t, k2, t1, t2, t3, t4⟩ := dtext_ex (lN k') 2 (by omega) (by omega)
      have lb := letter_bd k'
      have s1 : (one (lV k')).length + t.length ≤ sizeLine := sz2_of (by rw [len_one]; omega)
      have hz : LtrZ (one (lV k') ++ t) := fun c hc => by
        rw [zl_app] at hc
        rcases List.mem_append.mp hc with hc | hc
        · rw [List.mem_singleton.mp hc]; exact lb
        · exact t2 c hc
      have hzl : (one (lV k') ++ t).length = 1 + t.length := by rw [len_app, len_one]
      have sn := strs_shp nms fun z hz => (hN z hz).1
      have lsz : i < sizeLine := szl1_of' (by omega)
      have key : Ev (forL (.n 6) B__law_names_0 (rngD 0 9) [some (dk k2), some (iO n), some (.fr (.lst (bs.map .str))), some (.lst (nms.map .str)), some (iO (i : Int)), some (sO (one (lV k') ++ t)), q6]) (fun fl e => fl = .next ∧ ∃ z q6, e = [some (dk k2), some (iO n), some (.fr (.lst (bs.map .str))), some (.lst (nms.map .str)), some (iO (i : Int)), some (sO z), q6] ∧ IsNm z) (fun _ _ => False) := by
        refine Ev_forL (fun j e => @Dn.hb _ ⟨fun e => ∃ (z : Str) (q6 : Option O), e = [some (dk k2), some (iO n), some (.fr (.lst (bs.map .str))), some (.lst (nms.map .str)), some (iO (i : Int)), some (sO z), q6] ∧ LtrZ z ∧ 1 ≤ z.length ∧ z.length ≤ 3 + j⟩ e) _ (rngD 0 9) _ ⟨_, _, rfl, hz, by omega, by omega⟩ ?_ ?_
        · rintro j d e hd2 ⟨z, q6, rfl, hz, hz1, hz2⟩
          obtain ⟨rfl, hj⟩ := rng0_get hd2
          refine ⟨_, rfl, ?_⟩
          have sz := shp_z hz.ok
          have m7 : mulOk (i : Int) 7 = true := mul_small' (by omega)
          have bm : 0 ≤ ((i : Int) * 7 + (j : Int)).fmod 26 ∧ ((i : Int) * 7 + (j : Int)).fmod 26 < 26 := fm_bd (by omega)
          have am := abc_at bm.1 bm.2
          have g1 := gNotIn_l sz sn
          have g2 := gNotIn_l sz sb
          have s2 : z.length + (one (97 + (((i : Int) * 7 + (j : Int)).fmod 26).toNat)).length ≤ sizeLine := sz2_of (by rw [len_one]; omega)
          have hz3 : LtrZ (z ++ one (97 + (((i : Int) * 7 + (j : Int)).fmod 26).toNat)) := fun c hc => by
            rw [zl_app] at hc
            rcases List.mem_append.mp hc with hc | hc
            · exact hz c hc
            · rw [List.mem_singleton.mp hc]; omega
          have hz4 : (z ++ one (97 + (((i : Int) * 7 + (j : Int)).fmod 26).toNat)).length = z.length + 1 := by rw [len_app, len_one]
          unfold B__law_names_0
          clear hd2 hd hN bm t3 lb
          have nxt : ∀ q, @Dn.hb _ ⟨fun e => ∃ (z : Str) (q6 : Option O), e = [some (dk k2), some (iO n), some (.fr (.lst (bs.map .str))), some (.lst (nms.map .str)), some (iO (i : Int)), some (sO z), q6] ∧ LtrZ z ∧ 1 ≤ z.length ∧ z.length ≤ 3 + (j + 1)⟩ [some (dk k2), some (iO n), some (.fr (.lst (bs.map .str))), some (.lst (nms.map .str)), some (iO (i : Int)), some (sO (z ++ one (97 + (((i : Int) * 7 + (j : Int)).fmod 26).toNat))), q] := fun q => ⟨_, _, rfl, hz3, by omega, by omega⟩
          have stop : ∀ q, ∃ z' q6, [some (dk k2), some (iO n), some (.fr (.lst (bs.map .str))), some (.lst (nms.map .str)), some (iO (i : Int)), some (sO z), q] = [some (dk k2), some (iO n), some (.fr (.lst (bs.map .str))), some (.lst (nms.map .str)), some (iO (i : Int)), some (sO z'), q6] ∧ IsNm z' := fun q => ⟨_, _, rfl, hz, hz1, by omega⟩
          clear hz hz1 hz2 hz3 hz4 hzl
          cases b1 : inL (.str z) (nms.map .str) with
          | true =>
            rw [b1] at g1
            clear stop
            walk_at "ev"
          | false =>
            rw [b1] at g1
            cases b2 : inL (.str z) (bs.map .str) with
            | true =>
              rw [b2] at g2
              clear stop
              walk_at "ev"
            | false =>
              rw [b2] at g2
              clear nxt
              have st := stop (some (iO (j : Int)))
              clear stop
              walk_at "ev"
              simpa using st
        · rintro e ⟨z, q6, rfl, hz, hz1, hz2⟩
          have : (rngD 0 9).length = 9 := by rw [rngD_len]; rfl
          rw [this] at hz2
          exact ⟨rfl, z, q6, rfl, hz, hz1, by omega⟩
      obtain ⟨fl, e3, y1, rfl, z, q6', rfl, hz'⟩ := key.get
      have hN2 : ∀ w ∈ nms ++ [z], IsNm w := fun w hw => (List.mem_append.mp hw).elim (hN w) fun h => by rw [List.mem_singleton.mp h]; exact hz'
      have hl2 : (nms ++ [z]).length = i + 1 := by rw [List.length_append, hlen]; rfl
      unfold B__law_names_1
      clear hd hN hz hzl sn lb t3 key hz'
      walk_at "ev"
      exact hbi ⟨nms ++ [z], _, _, _, _, by rw [List.map_append]; rfl, hN2, hl2⟩
    · rintro e ⟨nms, k', q4, q5, q6, rfl, hN, hlen⟩
      rw [rngD_len] at hlen
      have hl2 : (nms.length : Int) = n := by omega
      clear hlen
      walk_at "ev"
      exact hqi ⟨nms, k', rfl, rfl, hN, hl2⟩
  obtain ⟨o, os, h, nms, k', rfl, rfl, h1⟩ := H.get
  exact ⟨nms, k', h, h1⟩
/-- the signs of a pattern -/
def PatZ (z : Str) : Prop := (∀ c ∈ zl z, 97 ≤ c ∧ c ≤ 122 ∨ c = 63 ∨ c = 42) ∧ z.length ≤ 5
theorem PatZ.ok {z : Str} (h : PatZ z) : ∀ c ∈ zl z, c < 1114112 := fun c hc => by have := h.1 c hc; omega
theorem dpat_ex (k : Dk) : ∃ z k', F__law_pattern [dk k] = some (.ok (sO z) [dk k']) ∧ PatZ z ∧ k'.c4 = k.c4 := by
  have H : FEv (F__law_pattern [dk k]) (@hq _ _ ⟨fun o os => ∃ z k', o = sO z ∧ os = [dk k'] ∧ PatZ z ∧ k'.c4 = k.c4⟩) (fun _ _ => False) := by
    have dr := draw_ok
    have bd := draw_bd k (b := 6) (by omega) (by omega)
    have ri : inR (dV k 6) = true := inR_pos bd.1 (by omega)
    have lt := letter_ok
    unfold F__law_pattern G__law_pattern
    walk_at "ev"
    refine Ev_forL (fun i e => @Dn.hb _ ⟨fun e => ∃ (z : Str) (k' : Dk) (q2 q3 : Option O), e = [some (dk k'), some (sO z), q2, q3] ∧ (∀ c ∈ zl z, 97 ≤ c ∧ c ≤ 122 ∨ c = 63 ∨ c = 42) ∧ z.length = i ∧ k'.c4 = k.c4⟩ e) _ (rngD 0 (dV k 6)) _ ⟨_, _, _, _, rfl, fun c h => by rw [zl_e] at h; exact (List.not_mem_nil h).elim, by decide +kernel, draw_c4 _ _⟩ ?_ ?_
    · rintro i d e hd ⟨z, k', q2, q3, rfl, hz, hl, hc⟩
      obtain ⟨rfl, hi⟩ := rng0_get hd
      refine ⟨_, rfl, ?_⟩
      have hi5 : i ≤ 5 := by omega
      have sz : ∀ c : Nat, z.length + (one c).length ≤ sizeLine := fun c => sz2_of (by rw [len_one]; omega)
      have nx : ∀ (c : Nat) (k2 : Dk) (q2 q3 : Option O), (97 ≤ c ∧ c ≤ 122 ∨ c = 63 ∨ c = 42) → k2.c4 = k.c4 → @Dn.hb _ ⟨fun e => ∃ (z : Str) (k' : Dk) (q2 q3 : Option O), e = [some (dk k'), some (sO z), q2, q3] ∧ (∀ c ∈ zl z, 97 ≤ c ∧ c ≤ 122 ∨ c = 63 ∨ c = 42) ∧ z.length = i + 1 ∧ k'.c4 = k.c4⟩ [some (dk k2), some (sO (z ++ one c)), q2, q3] := fun c k2 q2 q3 h1 h2 => ⟨_, _, _, _, rfl, fun e he => by
        rw [zl_app] at he
        rcases List.mem_append.mp he with he | he
        · exact hz e he
        · rw [List.mem_singleton.mp he]; exact h1, by rw [len_app, len_one, hl], h2⟩
      have e1 : PySem.Str.ofString "?" = one 63 := by decide +kernel
      have e2 : PySem.Str.ofString "*" = one 42 := by decide +kernel
      have n1 := nx 63 (dN k' 5) (some (iO (i : Int))) (some (iO (dV k' 5))) (.inr (.inl rfl)) (by rw [draw_c4, hc])
      have n2 := nx 42 (dN k' 5) (some (iO (i : Int))) (some (iO (dV k' 5))) (.inr (.inr rfl)) (by rw [draw_c4, hc])
      have n3 := nx (lV (dN k' 5)) (lN (dN k' 5)) (some (iO (i : Int))) (some (iO (dV k' 5))) (.inl (letter_bd _)) (by rw [letter_c4, draw_c4, hc])
      have s1 := sz 63
      have s2 := sz 42
      have s3 := sz (lV (dN k' 5))
      unfold B__law_pattern_0
      clear hd hz hc nx sz hl
      by_cases h0 : dV k' 5 = 0
      · clear n2 n3
        rw [h0] at n1
        walk_at "ev"
      · by_cases h1 : dV k' 5 = 1
        · by_cases h2 : (Txt.count z (one 42) : Int) < 2
          · clear n1 n3
            rw [h1] at n2
            walk_at "ev"
          · clear n1 n2
            rw [h1] at n3
            walk_at "ev"
        · clear n1 n2
          walk_at "ev"
    · rintro e ⟨z, k', q2, q3, rfl, hz, hl, hc⟩
      rw [rngD_len] at hl
      have h5 : PatZ z := ⟨hz, by omega⟩
      clear hl
      walk_at "ev"
      exact hqi ⟨z, k', rfl, rfl, h5, hc⟩
  obtain ⟨o, os, h, z, k', rfl, rfl, h1⟩ := H.get
  exact ⟨z, k', h, h1⟩
/-- a condition -/
inductive Cn where
  | at0 (w : Bool) | mat (n p : Str) | sam (a b : Str) | emp (a : Str) | nt (c : Cn) | nd (w : Bool) (cs : List Cn)
abbrev sAlw : Str := PySem.Str.ofString "always"
abbrev sNev : Str := PySem.Str.ofString "never"
abbrev sMat : Str := PySem.Str.ofString "matches"
abbrev sSam : Str := PySem.Str.ofString "same"
abbrev sEmp : Str := PySem.Str.ofString "empty"
abbrev sNot : Str := PySem.Str.ofString "not"
abbrev sAnd : Str := PySem.Str.ofString "and"
abbrev sOr : Str := PySem.Str.ofString "or"
def wAt (w : Bool) : Str := if w then sAlw else sNev
def wNd (w : Bool) : Str := if w then sAnd else sOr
mutual
def Cn.d : Cn → D
  | .at0 w => .tup [.str (wAt w)]
  | .mat n p => .tup [.str sMat, .str n, .str p]
  | .sam a b => .tup [.str sSam, .str a, .str b]
  | .emp a => .tup [.str sEmp, .str a]
  | .nt c => .tup [.str sNot, Cn.d c]
  | .nd w cs => .tup (.str (wNd w) :: Cn.ds cs)
def Cn.ds : List Cn → List D
  | [] => []
  | c :: cs => Cn.d c :: Cn.ds cs
end
theorem Cn.ds_map : ∀ cs : List Cn, Cn.ds cs = cs.map Cn.d
  | [] => rfl
  | c :: cs => by rw [Cn.ds, List.map_cons, Cn.ds_map cs]
mutual
def Cn.size : Cn → Nat
  | .nt c => 1 + Cn.size c
  | .nd _ cs => 1 + Cn.sizes cs
  | .at0 _ => 1
  | .mat _ _ => 1
  | .sam _ _ => 1
  | .emp _ => 1
def Cn.sizes : List Cn → Nat
  | [] => 0
  | c :: cs => Cn.size c + Cn.sizes cs
end
theorem Cn.sizes_app : ∀ a b : List Cn, Cn.sizes (a ++ b) = Cn.sizes a + Cn.sizes b
  | [], b => by rw [List.nil_append, Cn.sizes, Nat.zero_add]
  | x :: a, b => by rw [List.cons_append, Cn.sizes, Cn.sizes, Cn.sizes_app a b]; omega
/-- over these names and registers, nested at most so deep -/
inductive COk (N R : List Str) : Nat → Cn → Prop
  | at0 (n w) : COk N R (n + 1) (.at0 w)
  | mat (n a p) : a ∈ N → PatZ p → COk N R (n + 1) (.mat a p)
  | sam (n a b) : a ∈ N → b ∈ N → COk N R (n + 1) (.sam a b)
  | emp (n a) : a ∈ R → COk N R (n + 1) (.emp a)
  | nt (n c) : COk N R n c → COk N R (n + 1) (.nt c)
  | nd (n w cs) : (∀ c ∈ cs, COk N R n c) → COk N R (n + 1) (.nd w cs)
theorem set4a (k : Dk) (n : Int) (a1 a2 a3 a4 a6 a7 : Option O) : sSetIx 0 (eC (.int 4)) (ap gSub [.v (ap gIx [.b 0, .v (eC (.int 4))]), .b 5]) [some (dk k), a1, a2, a3, a4, some (iO n), a6, a7] = some (.ok .next [some (dk (k.s4 (k.c4 - n))), a1, a2, a3, a4, some (iO n), a6, a7]) := by
  have hde := dk_e k
  have hde2 := dk_e (k.s4 (k.c4 - n))
  have e4 := @ix5_4 0
  unfold Dk.s4 at *
  walk_at "ev"
theorem set4b (k : Dk) (es : Sl) : sSetIx 0 (eC (.int 4)) (ap gSub [.v (ap gIx [.b 0, .v (eC (.int 4))]), .v (eC (.int 1))]) (some (dk k) :: es) = some (.ok .next (some (dk (k.s4 (k.c4 - 1))) :: es)) := by
  have hde := dk_e k
  have hde2 := dk_e (k.s4 (k.c4 - 1))
  have e4 := @ix5_4 0
  unfold Dk.s4 at *
  walk_at "ev"
theorem set4c (k : Dk) (v : Int) (es : Sl) : sSetIx 0 (eC (.int 4)) (eC (.int v)) (some (dk k) :: es) = some (.ok .next (some (dk (k.s4 v)) :: es)) := by
  have hde := dk_e k
  have hde2 := dk_e (k.s4 v)
  have e4 := @ix5_4 0
  unfold Dk.s4 at *
  walk_at "ev"
theorem dk_d4 (k : Dk) : gIx [(dk k).d, .int 4] = some (iO k.c4) := by
  rw [dk_d, gIx_l, atI_c4]; rfl
theorem s4_c4 (k : Dk) (v : Int) : (k.s4 v).c4 = v := rfl
local macro_rules | `(tactic| walk_at "evd") => `(tactic| simp [↓set4a, ↓set4b, ↓set4c, dk_d4, s4_c4, mkF_e, finR_ret, finR_next, finR_ex, FEv_fin, finO_n, finO_c, sSeq_a, sIf_a, sRet_a, sSet_a, sDrop_a, sFor_a, sNext_a, sBrk_a, sCnt_a, tst_a, cAnd_a, cOr_a, cNot_a, ap_a, ops_n, ops_b, ops_v, eC_a, eVar_a, eMove_a, eFz_a, eIf_a, eAnd_a, eOr_a, eNot_a, items_n, items_c, eTup_a, eLst_a, pure_a, stuck_a, bind_a, eCall_e, callR_ok, callR_ex, Ev_callR, cops_n, cops_b, cops_v, wb, thn_ok, thn_ex, thn_none, ↓Ev_d, ↓FEv_d, Ev_thn, Ev_ok, Ev_ex, Ev_none, FEv_ok, FEv_ex, FEv_none, getO_nil, getO_0, getO_0n, getO_s, gAdd_i, gAdd_z, gAdd_l, gAdd_t, gAddI_i, gSub_i, gMul_i, gMulS_q, gDiv_i, gMod_i, gPow_i, gNeg_i, gEq_i, gEq_z, gEq_b, gNe_i, gNe_z, gNe_b, gEq_l, gEq_t, gEq_s, gEq_n, gNe_l, gNe_t, gNe_s, gNe_n, gLt_i, gLtX_i, gLtX_z, gLtX_t, gLtX_l, gGt_i, gLe_i, gGe_i, gLt_t, gGt_t, gLe_t, gGe_t, gLt_l, gGt_l, gLe_l, gGe_l, gLt_z, gGt_z, gLe_z, gGe_z, gIsN_n, gIsN_b, gIsN_i, gIsN_z, gIsN_l, gIsN_t, gIsN_s, gIsN_bb, gNotN_n, gNotN_b, gNotN_i, gNotN_z, gNotN_l, gNotN_t, gNotN_s, gNotN_bb, gIn_z, gIn_l, gIn_t, gNotIn_z, gNotIn_l, gNotIn_t, gIx_l, gIx_t, gIx_s, gIx_z, gLen_l, gLen_t, gLen_s, gLen_z, gInt_i, gInt_b, gOrd_1, gListX_z, gListX_l, gListX_t, gListX_s, gList_l, gList_t, gList_s, gTuple_l, gTuple_t, gApp_q, gPop0_q, gExt_q, gRev_q, gIsi_q, gSl00, gSl10, gSl01, gSl11, slD_l, slD_t, slD_s, slD_z, gRevS_l, gCount_z, gStarts_z, gRstrip_z, seqD_l, seqD_t, seqD_s, seqD_z, sRng1_e, sRng2_e, rgR1_q, rgR2_q, sSeqD_a, isStr, sEnum_a, eComp_e, lcR_ok, Ev_lcR, wipeE_n, wipeE_c, restE_n, restE_c, eMut1_a, eMut0_a, sSetIx_a, eChain_a, tru_a, sAug_a, sSetT_a, apM_b, apM_v, eI_a, Tg.go, gMax2_i, gIns0_q, gStr1_i, gAbs_i, truD_bl, truD_l, truD_t, gEq_iz, gEq_zi, gNe_iz, gNe_zi, atI_c0, atI_c1, atI_c2, atI_c3, atI_c4, atI_c5, isi_int_non, isi_int_bl, isi_int_int, isi_int_str, isi_int_lst, isi_int_scr, isi_int_tup, isi_bool_non, isi_bool_bl, isi_bool_int, isi_bool_str, isi_bool_lst, isi_bool_scr, isi_bool_tup, isi_str_non, isi_str_bl, isi_str_int, isi_str_str, isi_str_lst, isi_str_scr, isi_str_tup, isi_list_non, isi_list_bl, isi_list_int, isi_list_str, isi_list_lst, isi_list_scr, isi_list_tup, isi_tuple_non, isi_tuple_bl, isi_tuple_int, isi_tuple_str, isi_tuple_lst, isi_tuple_scr, isi_tuple_tup, *])
theorem strs_at (zs : List Str) {v : Int} (h0 : 0 ≤ v) (h1 : v < zs.length) : ∃ a ∈ zs, atI (zs.map D.str) v = some (.str a) := by
  obtain ⟨n, rfl⟩ := Int.eq_ofNat_of_zero_le h0
  have hn : n < zs.length := by omega
  exact ⟨zs[n], List.getElem_mem hn, by rw [atI_cn, List.getElem?_map, List.getElem?_eq_getElem hn]; rfl⟩
theorem str_in {z : Str} {zs : List Str} (hz : ∀ c ∈ zl z, c < 1114112) (hs : ∀ y ∈ zs, ∀ c ∈ zl y, c < 1114112) : gIn [.str z, .lst (zs.map .str)] = some (bO (decide (z ∈ zs))) := by
  have s2 : shp (.lst (zs.map .str)) = true := (shp_lst (k := 0) fun x hx => let ⟨y, hy, e⟩ := List.mem_map.mp hx; e ▸ shp_str (hs y hy)).shp (by omega)
  rw [gIn_l (shp_z hz) s2]
  congr 2
  have := inL_pl (x := .str z) (ds := zs.map .str) (by rw [D.pl]) fun d hd => let ⟨y, hy, e⟩ := List.mem_map.mp hd; e ▸ (by rw [D.pl])
  have h2 : D.str z ∈ zs.map D.str ↔ z ∈ zs := by
    rw [List.mem_map]
    exact ⟨fun ⟨y, hy, e⟩ => by injection e with e; exact e ▸ hy, fun h => ⟨z, h, rfl⟩⟩
  rw [h2] at this
  by_cases h : z ∈ zs
  · rw [decide_eq_true h]; exact this.mpr h
  · rw [decide_eq_false h]; exact Bool.eq_false_iff.mpr fun w => h (this.mp w)
theorem words_ok : ∀ z ∈ [sAlw, sNev, sMat, sSam, sEmp, sNot, sAnd, sOr], ∀ c ∈ zl z, c < 1114112 := by decide +kernel
/-- the word of a condition -/
def Cn.w : Cn → Str
  | .at0 w => wAt w
  | .mat _ _ => sMat
  | .sam _ _ => sSam
  | .emp _ => sEmp
  | .nt _ => sNot
  | .nd w _ => wNd w
def Cn.tl : Cn → List D
  | .at0 _ => []
  | .mat n p => [.str n, .str p]
  | .sam a b => [.str a, .str b]
  | .emp a => [.str a]
  | .nt c => [c.d]
  | .nd _ cs => Cn.ds cs
theorem Cn.d_e : ∀ c : Cn, c.d = .tup (.str c.w :: c.tl)
  | .at0 _ => by rw [Cn.d]; rfl
  | .mat _ _ => by rw [Cn.d]; rfl
  | .sam _ _ => by rw [Cn.d]; rfl
  | .emp _ => by rw [Cn.d]; rfl
  | .nt _ => by rw [Cn.d]; rfl
  | .nd _ _ => by rw [Cn.d]; rfl
theorem Cn.w_mem (c : Cn) : c.w ∈ [sAlw, sNev, sMat, sSam, sEmp, sNot, sAnd, sOr] := by
  cases c with
  | at0 w => cases w <;> decide +kernel
  | nd w _ => show wNd w ∈ _; cases w <;> decide +kernel
  | mat _ _ => show sMat ∈ _; decide +kernel
  | sam _ _ => show sSam ∈ _; decide +kernel
  | emp _ => show sEmp ∈ _; decide +kernel
  | nt _ => show sNot ∈ _; decide +kernel
theorem Cn.w_ok (c : Cn) : ∀ x ∈ zl c.w, x < 1114112 := words_ok _ c.w_mem
theorem Cn.w_one {c : Cn} (h : c.w ∈ [sMat, sEmp, sNev]) : c.size = 1 := by
  cases c with
  | nd w _ =>
    have h' : wNd w ∈ [sMat, sEmp, sNev] := h
    cases w <;> (exact absurd h' (by decide +kernel))
  | nt _ =>
    have h' : sNot ∈ [sMat, sEmp, sNev] := h
    exact absurd h' (by decide +kernel)
  | at0 _ => rw [Cn.size]
  | mat _ _ => rw [Cn.size]
  | sam _ _ => rw [Cn.size]
  | emp _ => rw [Cn.size]
theorem sz_pos : ∀ c : Cn, 1 ≤ c.size := fun c => by cases c <;> simp [Cn.size] <;> omega
theorem szs_len : ∀ cs : List Cn, cs.length ≤ Cn.sizes cs
  | [] => by simp [Cn.sizes]
  | c :: cs => by have := szs_len cs; have := sz_pos c; rw [List.length_cons, Cn.sizes]; omega
theorem dpart_ex (N R : O) (nms regs : List Str) (hN : N.d = .lst (nms.map .str)) (hR : R.d = .lst (regs.map .str)) (hn0 : 0 < nms.length) (hnl : nms.length ≤ 100) (hrl : regs.length ≤ 100) : ∀ (n : Nat) (k : Dk) (dp : Nat), 1 ≤ dp → dp ≤ n → 0 ≤ k.c4 → k.c4 ≤ 100 →
    ∃ (c : Cn) (k' : Dk), F__law_part n [dk k, N, R, .fr (.int dp)] = some (.ok (.fr c.d) [dk k', N, R, .fr (.int dp)]) ∧ COk nms regs dp c ∧ 0 ≤ k'.c4 ∧ (c.size : Int) + k'.c4 ≤ 1 + k.c4
  | 0, _, dp, h1, h2, _, _ => by omega
  | n + 1, k, dp, hd1, hd2, hk0, hk1 => by
    have ih := dpart_ex N R nms regs hN hR hn0 hnl hrl n
    obtain ⟨dp', rfl⟩ : ∃ d, dp = d + 1 := ⟨dp - 1, by omega⟩
    have H : FEv (F__law_part (n + 1) [dk k, N, R, .fr (.int ((dp' + 1 : Nat) : Int))]) (@hq _ _ ⟨fun o os => ∃ (c : Cn) (k' : Dk), o = .fr c.d ∧ os = [dk k', N, R, .fr (.int ((dp' + 1 : Nat) : Int))] ∧ COk nms regs (dp' + 1) c ∧ 0 ≤ k'.c4 ∧ (c.size : Int) + k'.c4 ≤ 1 + k.c4⟩) (fun _ _ => False) := by
      have dr := draw_ok
      have bd9 := draw_bd k (b := 9) (by omega) (by omega)
      have hsub : ((dp' + 1 : Nat) : Int) - 1 = (dp' : Int) := by omega
      unfold F__law_part G__law_part
      generalize hDP : ((dp' + 1 : Nat) : Int) = DP at *
      -- what is told when nothing is nested
      have flat : ∀ (c : Cn) (k' : Dk), COk nms regs (dp' + 1) c → c.size = 1 → k'.c4 = k.c4 → @hq O (List O) ⟨fun o os => ∃ (c : Cn) (k' : Dk), o = .fr c.d ∧ os = [dk k', N, R, .fr (.int DP)] ∧ COk nms regs (dp' + 1) c ∧ 0 ≤ k'.c4 ∧ (c.size : Int) + k'.c4 ≤ 1 + k.c4⟩ (.fr c.d) [dk k', N, R, .fr (.int DP)] := fun c k' h1 h2 h3 => ⟨c, k', rfl, rfl, h1, by omega, by omega⟩
      have nat : ∀ k1 : Dk, ∃ a ∈ nms, atI (nms.map D.str) (dV k1 nms.length) = some (.str a) := fun k1 => let b := draw_bd k1 (b := (nms.length : Int)) (by omega) (by omega); strs_at nms b.1 b.2
      have drn : ∀ k1 : Dk, F__law_draw [dk k1, .fr (.int nms.length)] = some (.ok (iO (dV k1 nms.length)) [dk (dN k1 nms.length), .fr (.int nms.length)]) := fun k1 => draw_ok k1 _ (by omega) (by omega)
      have mats : 3 ≤ dV k 9 ∨ ¬ 1 < DP → dV k 9 < 6 → (dV k 9 = 3 → ¬ (1 < DP ∧ 0 < k.c4)) → Ev (G__law_part (F__law_part n) [some (dk k), some N, some R, some (iO DP), none, none, none, none]) (fun fl e => match fl with
          | .ret o => @hq O (List O) ⟨fun o os => ∃ (c : Cn) (k' : Dk), o = .fr c.d ∧ os = [dk k', N, R, .fr (.int DP)] ∧ COk nms regs (dp' + 1) c ∧ 0 ≤ k'.c4 ∧ (c.size : Int) + k'.c4 ≤ 1 + k.c4⟩ o [dk k, N, R, .fr (.int DP)]
          | _ => False) (fun _ _ => False) → True := fun _ _ _ _ => trivial
      clear mats
      by_cases hA : dV k 9 < 3 ∧ 1 < DP
      · obtain ⟨hA1, hA2⟩ := hA
        -- the parts
        have parts : ∀ (kk : Dk) (cnt : Int) (q4 q6 : Option O), 0 ≤ cnt → cnt ≤ kk.c4 → kk.c4 ≤ 100 → ∃ (cs : List Cn) (k5 : Dk), lcL [7] (.n 7) cYes (C__law_part_0 (F__law_part n)) (rngD 0 cnt) [] [some (dk (kk.s4 (kk.c4 - cnt))), some N, some R, some (iO DP), q4, some (iO cnt), q6, none] = some (Cn.ds cs, [some (dk k5), some N, some R, some (iO DP), q4, some (iO cnt), q6, none]) ∧ (∀ c ∈ cs, COk nms regs dp' c) ∧ (cs.length : Int) = cnt ∧ 0 ≤ k5.c4 ∧ (Cn.sizes cs : Int) + k5.c4 ≤ kk.c4 := by
          intro kk cnt q4 q6 h0 h1 h2
          obtain ⟨xs, e', c1, c2, cs, k5, rfl, rfl, c3, c4, c5⟩ := lc_acc (own := [7]) (tg := .n 7) (f := C__law_part_0 (F__law_part n)) (fun acc e => ∃ (cs : List Cn) (k5 : Dk), acc = cs.map Cn.d ∧ e = [some (dk k5), some N, some R, some (iO DP), q4, some (iO cnt), q6, none] ∧ (∀ c ∈ cs, COk nms regs dp' c) ∧ 0 ≤ k5.c4 ∧ (Cn.sizes cs : Int) + k5.c4 ≤ (kk.c4 - cnt) + cs.length) (rngD 0 cnt) [some (dk (kk.s4 (kk.c4 - cnt))), some N, some R, some (iO DP), q4, some (iO cnt), q6, none] (by rw [rngD_len]; omega) (fun d hd acc e ⟨cs, k1, e1, e2, e3, e4, e5⟩ => by
            subst e1 e2
            have hsl := szs_len cs
            obtain ⟨c, k2, p1, p2, p3, p4⟩ := ih k1 dp' (by omega) (by omega) e4 (by omega)
            refine ⟨_, rfl, ?_⟩
            have fin : @hq (List D) Sl ⟨fun acc e => ∃ (cs : List Cn) (k5 : Dk), acc = cs.map Cn.d ∧ e = [some (dk k5), some N, some R, some (iO DP), q4, some (iO cnt), q6, none] ∧ (∀ c ∈ cs, COk nms regs dp' c) ∧ 0 ≤ k5.c4 ∧ (Cn.sizes cs : Int) + k5.c4 ≤ (kk.c4 - cnt) + cs.length⟩ (cs.map Cn.d ++ [c.d]) [some (dk k2), some N, some R, some (iO DP), q4, some (iO cnt), q6, none] := ⟨cs ++ [c], k2, by rw [List.map_append]; rfl, rfl, fun c' hc => (List.mem_append.mp hc).elim (e3 c') fun h => by rw [List.mem_singleton.mp h]; exact p2, p3, by rw [Cn.sizes_app, Cn.sizes, Cn.sizes, List.length_append]; simp only [List.length_cons, List.length_nil]; omega⟩
            show Ev _ (fun (o : O) e3 => @hq (List D) Sl ⟨fun acc e => ∃ (cs : List Cn) (k5 : Dk), acc = cs.map Cn.d ∧ e = [some (dk k5), some N, some R, some (iO DP), q4, some (iO cnt), q6, none] ∧ (∀ c ∈ cs, COk nms regs dp' c) ∧ 0 ≤ k5.c4 ∧ (Cn.sizes cs : Int) + k5.c4 ≤ (kk.c4 - cnt) + cs.length⟩ (cs.map Cn.d ++ [o.d]) (wipeE e3 [7])) _
            unfold C__law_part_0
            clear hd e3 e5 p4
            walk_at "evd") ⟨[], _, rfl, rfl, fun c h => (List.not_mem_nil h).elim, by rw [s4_c4]; omega, by rw [s4_c4]; simp [Cn.sizes]⟩
          rw [List.length_map, rngD_len] at c2
          exact ⟨cs, k5, by rw [c1, Cn.ds_map], c3, by omega, c4, by omega⟩
        -- behind the parts
        have fin : ∀ (cs : List Cn) (w : Bool) (k6 : Dk), (∀ c ∈ cs, COk nms regs dp' c) → 0 ≤ k6.c4 → (Cn.sizes cs : Int) + k6.c4 ≤ k.c4 → @hq O (List O) ⟨fun o os => ∃ (c : Cn) (k' : Dk), o = .fr c.d ∧ os = [dk k', N, R, .fr (.int DP)] ∧ COk nms regs (dp' + 1) c ∧ 0 ≤ k'.c4 ∧ (c.size : Int) + k'.c4 ≤ 1 + k.c4⟩ (.fr (.tup (.str (wNd w) :: Cn.ds cs))) [dk k6, N, R, .fr (.int DP)] := fun cs w k6 h1 h2 h3 => ⟨.nd w cs, k6, by rw [Cn.d], rfl, .nd _ _ _ h1, h2, by rw [Cn.size]; omega⟩
        have ds_len : ∀ cs : List Cn, (Cn.ds cs).length = cs.length := fun cs => by rw [Cn.ds_map, List.length_map]
        have cnt : ∃ (kk : Dk) (cnt : Int), 0 ≤ cnt ∧ kk.c4 = k.c4 ∧ (dV (dN (dN k 9) 4) 12 = 0 ∧ kk = dN (dN (dN (dN k 9) 4) 12) 15 ∧ cnt = 5 + dV (dN (dN (dN k 9) 4) 12) 15 ∨ ¬ dV (dN (dN k 9) 4) 12 = 0 ∧ kk = dN (dN (dN k 9) 4) 12 ∧ cnt = dV (dN k 9) 4) := by
          by_cases h : dV (dN (dN k 9) 4) 12 = 0
          · have := draw_bd (dN (dN (dN k 9) 4) 12) (b := 15) (by omega) (by omega)
            exact ⟨_, _, by omega, by simp only [draw_c4], .inl ⟨h, rfl, rfl⟩⟩
          · have := draw_bd (dN k 9) (b := 4) (by omega) (by omega)
            exact ⟨_, _, by omega, by simp only [draw_c4], .inr ⟨h, rfl, rfl⟩⟩
        obtain ⟨kk, cn0, n0, n1, n2⟩ := cnt
        obtain ⟨cn, m1, m2, m3⟩ : ∃ cn : Int, gMin2 [.int cn0, .int kk.c4] = some (iO cn) ∧ 0 ≤ cn ∧ cn ≤ kk.c4 := by
          rw [gMin2_i]
          by_cases h : kk.c4 < cn0
          · exact ⟨_, by rw [if_pos h], by omega, by omega⟩
          · exact ⟨_, by rw [if_neg h], n0, by omega⟩
        obtain ⟨cs, k5, p1, p2, p3, p4, p5⟩ := parts kk cn (some (iO (dV k 9))) none m2 m3 (by omega)
        have ri : inR cn = true := inR_pos m2 (by omega)
        have bd2 := draw_bd k5 (b := 2) (by omega) (by omega)
        have bd2' := draw_bd (k5.s4 (k5.c4 - 1)) (b := 2) (by omega) (by omega)
        have hw : ∀ v : Int, 0 ≤ v ∧ v < 2 → ∃ w, atI [D.str sAnd, D.str sOr] v = some (.str (wNd w)) := fun v hv => by
          have : v = 0 ∨ v = 1 := by omega
          rcases this with rfl | rfl
          · exact ⟨true, rfl⟩
          · exact ⟨false, rfl⟩
        obtain ⟨w, hw1⟩ := hw _ bd2
        obtain ⟨w', hw1'⟩ := hw _ bd2'
        have sl := szs_len cs
        have lz : 1 + (Cn.ds cs).length ≤ sizeLine := by rw [ds_len, sizeLine_eq]; omega
        have lz' : (Cn.ds cs).length + 1 ≤ sizeLine := by rw [ds_len, sizeLine_eq]; omega
        have lz2 : (Cn.ds cs).length < sizeLine := by rw [ds_len, sizeLine_eq]; omega
        have lz3 : (Cn.ds cs).length + 1 + 1 ≤ sizeLine := by rw [ds_len, sizeLine_eq]; omega
        have f1 := fin cs w (dN k5 2) p2 (by rw [draw_c4]; exact p4) (by rw [draw_c4]; omega)
        -- is the first one taken twice
        by_cases hdo : ∃ c0 cs', cs = c0 :: cs' ∧ 0 < k5.c4 ∧ c0.tl.length + 1 < 4 ∧ c0.w ∈ [sMat, sEmp, sNev]
        · obtain ⟨c0, cs', rfl, q1, q2, q3⟩ := hdo
          have hin : gIn [.str c0.w, .lst [.str (PySem.Str.ofString "matches"), .str (PySem.Str.ofString "empty"), .str (PySem.Str.ofString "never")]] = some (bO (decide (c0.w ∈ [sMat, sEmp, sNev]))) := str_in (z := c0.w) (zs := [sMat, sEmp, sNev]) c0.w_ok (by decide +kernel)
          rw [decide_eq_true q3] at hin
          have hcd := c0.d_e
          have hds : Cn.ds (c0 :: cs') = c0.d :: Cn.ds cs' := by rw [Cn.ds]
          have hds2 : Cn.ds (c0 :: cs' ++ [c0]) = c0.d :: (Cn.ds cs' ++ [c0.d]) := by rw [Cn.ds_map, Cn.ds_map]; simp
          have one := Cn.w_one q3
          have f2 := fin (c0 :: cs' ++ [c0]) w' (dN (k5.s4 (k5.c4 - 1)) 2) (fun c hc => (List.mem_append.mp hc).elim (p2 c) fun h => by rw [List.mem_singleton.mp h]; exact p2 _ List.mem_cons_self) (by rw [draw_c4, s4_c4]; omega) (by rw [draw_c4, s4_c4]; simp only [Cn.sizes_app, Cn.sizes, one] at p5 ⊢; omega)
          have hcn : 0 < cn := by rw [List.length_cons] at p3; omega
          rw [hds2] at f2
          rw [hds] at p1 lz lz' lz2 lz3
          rw [hcd] at p1 f2 lz lz' lz2 lz3
          rw [List.length_cons] at lz lz' lz2 lz3
          have lz4 : 1 + ((Cn.ds cs').length + 1 + 1) ≤ sizeLine := by omega
          have lz5 : (Cn.ds cs').length + 1 + 1 + 1 ≤ sizeLine := by omega
          have q2' : (c0.tl.length : Int) + 1 < 4 := by omega
          clear n1 fin parts flat nat drn ih f1 p2 p3 p5 sl hw bd2 bd2' bd9 hw1 hds hds2 q3 hcd ds_len hk0 hk1 hN hR one
          rcases n2 with ⟨n2, rfl, rfl⟩ | ⟨n2, rfl, rfl⟩
          · walk_at "evd"
            all_goals exact f2
          · walk_at "evd"
            all_goals exact f2
        · -- it is not
          have hno : (¬ 0 < cn) ∨ ∃ c0 cs', cs = c0 :: cs' ∧ (¬ 0 < k5.c4 ∨ ¬ c0.tl.length + 1 < 4 ∨ ¬ c0.w ∈ [sMat, sEmp, sNev]) := by
            by_cases hcn : 0 < cn
            · refine .inr ?_
              cases cs with
              | nil => simp at p3; omega
              | cons c0 cs' =>
                refine ⟨c0, cs', rfl, ?_⟩
                by_cases a1 : 0 < k5.c4
                · by_cases a2 : c0.tl.length + 1 < 4
                  · by_cases a3 : c0.w ∈ [sMat, sEmp, sNev]
                    · exact absurd ⟨c0, cs', rfl, a1, a2, a3⟩ hdo
                    · exact .inr (.inr a3)
                  · exact .inr (.inl a2)
                · exact .inl a1
            · exact .inl hcn
          clear n1 fin parts flat nat drn ih p2 p5 sl hw bd2 bd2' bd9 hw1' hdo hk0 hk1 hN hR
          rcases hno with hcn | ⟨c0, cs', rfl, hno⟩
          · clear p3 ds_len
            rcases n2 with ⟨n2, rfl, rfl⟩ | ⟨n2, rfl, rfl⟩
            · walk_at "evd"
            · walk_at "evd"
          · have hin : gIn [.str c0.w, .lst [.str (PySem.Str.ofString "matches"), .str (PySem.Str.ofString "empty"), .str (PySem.Str.ofString "never")]] = some (bO (decide (c0.w ∈ [sMat, sEmp, sNev]))) := str_in (z := c0.w) (zs := [sMat, sEmp, sNev]) c0.w_ok (by decide +kernel)
            have hcd := c0.d_e
            have hds : Cn.ds (c0 :: cs') = c0.d :: Cn.ds cs' := by rw [Cn.ds]
            have hcn : 0 < cn := by rw [List.length_cons] at p3; omega
            rw [hds] at p1 f1 lz lz' lz2 lz3
            rw [hcd] at p1 f1 lz lz' lz2 lz3
            rw [List.length_cons] at lz lz' lz2 lz3
            clear ds_len hds p3 hcd
            rcases hno with a1 | a1
            · clear hin
              rcases n2 with ⟨n2, rfl, rfl⟩ | ⟨n2, rfl, rfl⟩
              · walk_at "evd"
              · walk_at "evd"
            · by_cases a0 : 0 < k5.c4
              · by_cases a2 : (c0.tl.length : Int) + 1 < 4
                · have a3 : ¬ c0.w ∈ [sMat, sEmp, sNev] := a1.elim (fun z => absurd (by omega) z) id
                  rw [decide_eq_false a3] at hin
                  clear a1 a3
                  rcases n2 with ⟨n2, rfl, rfl⟩ | ⟨n2, rfl, rfl⟩
                  · walk_at "evd"
                    all_goals exact f1
                  · walk_at "evd"
                    all_goals exact f1
                · clear hin a1
                  rcases n2 with ⟨n2, rfl, rfl⟩ | ⟨n2, rfl, rfl⟩
                  · walk_at "evd"
                    all_goals exact f1
                  · walk_at "evd"
                    all_goals exact f1
              · clear hin a1
                rcases n2 with ⟨n2, rfl, rfl⟩ | ⟨n2, rfl, rfl⟩
                · walk_at "evd"
                  all_goals exact f1
                · walk_at "evd"
                  all_goals exact f1
      · have c4e := draw_c4
        by_cases hB : dV k 9 = 3 ∧ 1 < DP ∧ 0 < k.c4
        · obtain ⟨hB1, hB2, hB3⟩ := hB
          obtain ⟨c, k2, p1, p2, p3, p4⟩ := ih ((dN k 9).s4 ((dN k 9).c4 - 1)) dp' (by omega) (by omega) (by rw [s4_c4, draw_c4]; omega) (by rw [s4_c4, draw_c4]; omega)
          rw [s4_c4] at p4
          rw [draw_c4] at p4
          have fin : @hq O (List O) ⟨fun o os => ∃ (c : Cn) (k' : Dk), o = .fr c.d ∧ os = [dk k', N, R, .fr (.int DP)] ∧ COk nms regs (dp' + 1) c ∧ 0 ≤ k'.c4 ∧ (c.size : Int) + k'.c4 ≤ 1 + k.c4⟩ (.fr (.tup [.str sNot, c.d])) [dk k2, N, R, .fr (.int DP)] := ⟨.nt c, k2, by rw [Cn.d], rfl, .nt _ _ p2, p3, by rw [Cn.size]; omega⟩
          rw [draw_c4] at p1
          clear flat nat drn ih p2 p4 bd9 hA
          walk_at "evd"
          all_goals exact fin
        · by_cases hC : dV k 9 < 6
          · obtain ⟨a, am, ha⟩ := nat (dN k 9)
            obtain ⟨z, k2, z1, z2, z3⟩ := dpat_ex (dN (dN k 9) nms.length)
            have f1 := flat (.mat a z) k2 (.mat _ _ _ am z2) rfl (by rw [z3, draw_c4, draw_c4])
            have e1 : (Cn.mat a z).d = .tup [.str sMat, .str a, .str z] := by rw [Cn.d]
            rw [e1] at f1
            have d1 := drn (dN k 9)
            have cA : ¬ (dV k 9 < 3) ∨ ¬ 1 < DP := by
              by_cases h : dV k 9 < 3
              · exact .inr fun z => hA ⟨h, z⟩
              · exact .inl h
            have cB : ¬ dV k 9 = 3 ∨ ¬ 1 < DP ∨ ¬ 0 < k.c4 := by
              by_cases h : dV k 9 = 3
              · by_cases h2 : 1 < DP
                · exact .inr (.inr fun z => hB ⟨h, h2, z⟩)
                · exact .inr (.inl h2)
              · exact .inl h
            clear flat nat drn ih bd9 hA hB z2 z3 am e1 hk0 hk1 hsub hDP hd1 hd2
            rcases cA with cA | cA
            · rcases cB with cB | cB | cB
              · walk_at "evd"
                all_goals exact f1
              · by_cases cB' : dV k 9 = 3
                · rw [cB'] at *
                  walk_at "evd"
                  all_goals exact f1
                · walk_at "evd"
                  all_goals exact f1
              · by_cases cB' : dV k 9 = 3
                · rw [cB'] at *
                  by_cases cD : 1 < DP
                  · walk_at "evd"
                    all_goals exact f1
                  · walk_at "evd"
                    all_goals exact f1
                · walk_at "evd"
                  all_goals exact f1
            · by_cases cB' : dV k 9 = 3
              · rw [cB'] at *
                walk_at "evd"
                all_goals exact f1
              · by_cases cA' : dV k 9 < 3
                · walk_at "evd"
                  all_goals exact f1
                · walk_at "evd"
                  all_goals exact f1
          · have n3 : ¬ dV k 9 < 3 := by omega
            have n33 : ¬ dV k 9 = 3 := by omega
            by_cases h6 : dV k 9 = 6
            · obtain ⟨a, am, ha⟩ := nat (dN k 9)
              obtain ⟨b, bm, hb⟩ := nat (dN (dN k 9) nms.length)
              have f1 := flat (.sam a b) (dN (dN (dN k 9) nms.length) nms.length) (.sam _ _ _ am bm) rfl (by simp only [draw_c4])
              have e1 : (Cn.sam a b).d = .tup [.str sSam, .str a, .str b] := by rw [Cn.d]
              rw [e1] at f1
              have d1 := drn (dN k 9)
              have d2 := drn (dN (dN k 9) nms.length)
              clear flat nat drn ih bd9 hA hB am bm e1 hk0 hk1 hsub hDP hd1 hd2 hC n3 n33
              walk_at "evd"
              all_goals exact f1
            · have bdw := draw_bd (dN k 9) (b := 2) (by omega) (by omega)
              have hw : ∃ w, atI [D.str sAlw, D.str sNev] (dV (dN k 9) 2) = some (.str (wAt w)) := by
                have : dV (dN k 9) 2 = 0 ∨ dV (dN k 9) 2 = 1 := by omega
                rcases this with h | h
                · rw [h]; exact ⟨true, rfl⟩
                · rw [h]; exact ⟨false, rfl⟩
              obtain ⟨w, hw⟩ := hw
              have f2 := flat (.at0 w) (dN (dN k 9) 2) (.at0 _ _) rfl (by simp only [draw_c4])
              have e2 : (Cn.at0 w).d = .tup [.str (wAt w)] := by rw [Cn.d]
              rw [e2] at f2
              by_cases h7 : dV k 9 = 7
              · by_cases hr : 0 < regs.length
                · have b := draw_bd (dN k 9) (b := (regs.length : Int)) (by omega) (by omega)
                  obtain ⟨a, am, ha⟩ := strs_at regs b.1 b.2
                  have f1 := flat (.emp a) (dN (dN k 9) regs.length) (.emp _ _ am) rfl (by simp only [draw_c4])
                  have e1 : (Cn.emp a).d = .tup [.str sEmp, .str a] := by rw [Cn.d]
                  rw [e1] at f1
                  have d1 := draw_ok (dN k 9) regs.length (by omega) (by omega)
                  have hr' : ¬ regs.length = 0 := by omega
                  clear flat nat drn ih bd9 hA hB am e1 hk0 hk1 hsub hDP hd1 hd2 hC n3 n33 h6 f2 e2 hw bdw b
                  walk_at "evd"
                  all_goals exact f1
                · clear flat nat drn ih bd9 hA hB hk0 hk1 hsub hDP hd1 hd2 hC n3 n33 h6 e2 bdw
                  walk_at "evd"
                  all_goals exact f2
              · clear flat nat drn ih bd9 hA hB hk0 hk1 hsub hDP hd1 hd2 e2 bdw
                walk_at "evd"
                all_goals exact f2
    obtain ⟨o, os, h, c, k', rfl, rfl, h1⟩ := H.get
    exact ⟨c, k', h, h1⟩
theorem dcond_ex (N R : O) (nms regs : List Str) (hN : N.d = .lst (nms.map .str)) (hR : R.d = .lst (regs.map .str)) (hn0 : 0 < nms.length) (hnl : nms.length ≤ 100) (hrl : regs.length ≤ 100) (k : Dk) (dp : Nat) (h1 : 1 ≤ dp) (h2 : dp ≤ 40) :
    ∃ (c : Cn) (k' : Dk), F__law_condition [dk k, N, R, .fr (.int dp)] = some (.ok (.fr c.d) [dk k', N, R, .fr (.int dp)]) ∧ COk nms regs dp c ∧ c.size ≤ 20 := by
  have H : FEv (F__law_condition [dk k, N, R, .fr (.int dp)]) (@hq _ _ ⟨fun o os => ∃ (c : Cn) (k' : Dk), o = .fr c.d ∧ os = [dk k', N, R, .fr (.int dp)] ∧ COk nms regs dp c ∧ c.size ≤ 20⟩) (fun _ _ => False) := by
    obtain ⟨c, k', p1, p2, p3, p4⟩ := dpart_ex N R nms regs hN hR hn0 hnl hrl 40 (k.s4 19) dp h1 h2 (by rw [s4_c4]; omega) (by rw [s4_c4]; omega)
    rw [s4_c4] at p4
    have p5 : c.size ≤ 20 := by omega
    unfold F__law_condition G__law_condition
    clear p4 p3 hN hR
    walk_at "evd"
    exact hqi ⟨c, k', rfl, rfl, p2, p5⟩
  obtain ⟨o, os, h, c, k', rfl, rfl, h1⟩ := H.get
  exact ⟨c, k', h, h1⟩
/-- the conditions directly inside -/
def Cn.parts : Cn → List Cn
  | .nt c => [c]
  | .nd _ cs => cs
  | _ => []
theorem COk.dp {N R : List Str} {n : Nat} {c : Cn} (h : COk N R n c) : ∃ m, n = m + 1 ∧ ∀ p ∈ c.parts, COk N R m p := by
  cases h with
  | at0 m w => exact ⟨m, rfl, fun p hp => (List.not_mem_nil hp).elim⟩
  | mat m a p _ _ => exact ⟨m, rfl, fun p hp => (List.not_mem_nil hp).elim⟩
  | sam m a b _ _ => exact ⟨m, rfl, fun p hp => (List.not_mem_nil hp).elim⟩
  | emp m a _ => exact ⟨m, rfl, fun p hp => (List.not_mem_nil hp).elim⟩
  | nt m c h => exact ⟨m, rfl, fun p hp => by rw [List.mem_singleton.mp hp]; exact h⟩
  | nd m w cs h => exact ⟨m, rfl, h⟩
theorem Cn.wb (c : Cn) : (c.w ∈ [sAnd, sOr, sNot]) ∨ ¬ c.w ∈ [sAnd, sOr, sNot] := Decidable.em _
theorem Cn.w_in {c : Cn} : (c.w ∈ [sAnd, sOr, sNot] → c.tl = c.parts.map Cn.d) ∧ (¬ c.w ∈ [sAnd, sOr, sNot] → c.parts = []) := by
  cases c with
  | at0 w => exact ⟨fun h => absurd h (by show ¬ wAt w ∈ _; cases w <;> decide +kernel), fun _ => rfl⟩
  | mat _ _ => exact ⟨fun h => absurd h (by show ¬ sMat ∈ _; decide +kernel), fun _ => rfl⟩
  | sam _ _ => exact ⟨fun h => absurd h (by show ¬ sSam ∈ _; decide +kernel), fun _ => rfl⟩
  | emp _ => exact ⟨fun h => absurd h (by show ¬ sEmp ∈ _; decide +kernel), fun _ => rfl⟩
  | nt c => exact ⟨fun _ => rfl, fun h => absurd (by show sNot ∈ _; decide +kernel) h⟩
  | nd w cs => exact ⟨fun _ => Cn.ds_map cs, fun h => absurd (by show wNd w ∈ _; cases w <;> decide +kernel) h⟩
theorem str_inT {z : Str} {zs : List Str} (hz : ∀ c ∈ zl z, c < 1114112) (hs : ∀ y ∈ zs, ∀ c ∈ zl y, c < 1114112) : gIn [.str z, .tup (zs.map .str)] = some (bO (decide (z ∈ zs))) := by
  have s2 : shp (.tup (zs.map .str)) = true := (shp_tup (k := 0) fun x hx => let ⟨y, hy, e⟩ := List.mem_map.mp hx; e ▸ shp_str (hs y hy)).shp (by omega)
  rw [gIn_t (shp_z hz) s2]
  congr 2
  have := inL_pl (x := .str z) (ds := zs.map .str) (by rw [D.pl]) fun d hd => let ⟨y, hy, e⟩ := List.mem_map.mp hd; e ▸ (by rw [D.pl])
  have h2 : D.str z ∈ zs.map D.str ↔ z ∈ zs := by
    rw [List.mem_map]
    exact ⟨fun ⟨y, hy, e⟩ => by injection e with e; exact e ▸ hy, fun h => ⟨z, h, rfl⟩⟩
  rw [h2] at this
  by_cases h : z ∈ zs
  · rw [decide_eq_true h]; exact this.mpr h
  · rw [decide_eq_false h]; exact Bool.eq_false_iff.mpr fun w => h (this.mp w)
theorem cut1_c {x : D} {xs : List D} : cutD (x :: xs) (some 1) none = xs := by rw [cutD_1]; rfl
theorem Cn.w_mat {c : Cn} (h : c.w = sMat) : ∃ n p, c = .mat n p := by
  cases c with
  | mat n p => exact ⟨n, p, rfl⟩
  | at0 w => exact absurd h (by show wAt w ≠ _; cases w <;> decide +kernel)
  | sam _ _ => exact absurd h (by show sSam ≠ _; decide +kernel)
  | emp _ => exact absurd h (by show sEmp ≠ _; decide +kernel)
  | nt _ => exact absurd h (by show sNot ≠ _; decide +kernel)
  | nd w _ => exact absurd h (by show wNd w ≠ _; cases w <;> decide +kernel)
theorem D.pl_tup {ds : List D} (h : ∀ d ∈ ds, d.pl = true) : (D.tup ds).pl = true := by rw [D.pl]; exact D.pls_of h
theorem cok_shp {N R : List Str} (hN : ∀ z ∈ N, LtrZ z) (hR : ∀ z ∈ R, LtrZ z) : ∀ {n : Nat} {c : Cn}, COk N R n c → Shp (n + 1) c.d ∧ c.d.pl = true
  | n + 1, .at0 w, _ => by
    rw [Cn.d]
    have hw : ∀ x ∈ zl (wAt w), x < 1114112 := by cases w <;> decide +kernel
    exact ⟨shp_tup fun x hx => by rw [List.mem_singleton.mp hx]; exact (shp_str hw).mono (by omega), D.pl_tup fun x hx => by rw [List.mem_singleton.mp hx, D.pl]⟩
  | n + 1, .mat a p, h => by
    rw [Cn.d]
    cases h with
    | mat _ _ _ ha hp =>
      refine ⟨shp_tup fun x hx => ?_, D.pl_tup fun x hx => ?_⟩
      · simp only [List.mem_cons, List.not_mem_nil, or_false] at hx
        rcases hx with rfl | rfl | rfl
        · exact (shp_str (by decide +kernel)).mono (by omega)
        · exact (shp_str (hN a ha).ok).mono (by omega)
        · exact (shp_str hp.ok).mono (by omega)
      · simp only [List.mem_cons, List.not_mem_nil, or_false] at hx
        rcases hx with rfl | rfl | rfl <;> rw [D.pl]
  | n + 1, .sam a b, h => by
    rw [Cn.d]
    cases h with
    | sam _ _ _ ha hb =>
      refine ⟨shp_tup fun x hx => ?_, D.pl_tup fun x hx => ?_⟩
      · simp only [List.mem_cons, List.not_mem_nil, or_false] at hx
        rcases hx with rfl | rfl | rfl
        · exact (shp_str (by decide +kernel)).mono (by omega)
        · exact (shp_str (hN a ha).ok).mono (by omega)
        · exact (shp_str (hN b hb).ok).mono (by omega)
      · simp only [List.mem_cons, List.not_mem_nil, or_false] at hx
        rcases hx with rfl | rfl | rfl <;> rw [D.pl]
  | n + 1, .emp a, h => by
    rw [Cn.d]
    cases h with
    | emp _ _ ha =>
      refine ⟨shp_tup fun x hx => ?_, D.pl_tup fun x hx => ?_⟩
      · simp only [List.mem_cons, List.not_mem_nil, or_false] at hx
        rcases hx with rfl | rfl
        · exact (shp_str (by decide +kernel)).mono (by omega)
        · exact (shp_str (hR a ha).ok).mono (by omega)
      · simp only [List.mem_cons, List.not_mem_nil, or_false] at hx
        rcases hx with rfl | rfl <;> rw [D.pl]
  | n + 1, .nt c, h => by
    rw [Cn.d]
    cases h with
    | nt _ _ hc =>
      have ih := cok_shp hN hR hc
      refine ⟨shp_tup fun x hx => ?_, D.pl_tup fun x hx => ?_⟩
      · simp only [List.mem_cons, List.not_mem_nil, or_false] at hx
        rcases hx with rfl | rfl
        · exact (shp_str (by decide +kernel)).mono (by omega)
        · exact ih.1
      · simp only [List.mem_cons, List.not_mem_nil, or_false] at hx
        rcases hx with rfl | rfl
        · rw [D.pl]
        · exact ih.2
  | n + 1, .nd w cs, h => by
    rw [Cn.d, Cn.ds_map]
    cases h with
    | nd _ _ _ hc =>
      have hw : ∀ x ∈ zl (wNd w), x < 1114112 := by cases w <;> decide +kernel
      refine ⟨shp_tup fun x hx => ?_, D.pl_tup fun x hx => ?_⟩
      · rcases List.mem_cons.mp hx with rfl | hx
        · exact (shp_str hw).mono (by omega)
        · obtain ⟨c, hcm, rfl⟩ := List.mem_map.mp hx
          exact (cok_shp hN hR (hc c hcm)).1
      · rcases List.mem_cons.mp hx with rfl | hx
        · rw [D.pl]
        · obtain ⟨c, hcm, rfl⟩ := List.mem_map.mp hx
          exact (cok_shp hN hR (hc c hcm)).2
theorem COk.mono {N R : List Str} : ∀ {n m : Nat} {c : Cn}, COk N R n c → n ≤ m → COk N R m c
  | n + 1, 0, _, _, h => by omega
  | n + 1, m + 1, .at0 w, _, _ => .at0 _ _
  | n + 1, m + 1, .mat a p, h, _ => by cases h with | mat _ _ _ ha hp => exact .mat _ _ _ ha hp
  | n + 1, m + 1, .sam a b, h, _ => by cases h with | sam _ _ _ ha hp => exact .sam _ _ _ ha hp
  | n + 1, m + 1, .emp a, h, _ => by cases h with | emp _ _ ha => exact .emp _ _ ha
  | n + 1, m + 1, .nt c, h, hm => by cases h with | nt _ _ hc => exact .nt _ _ (hc.mono (by omega))
  | n + 1, m + 1, .nd w cs, h, hm => by cases h with | nd _ _ _ hc => exact .nd _ _ _ fun c hcm => (hc c hcm).mono (by omega)
/-! normal forms, plainly -/
section
open Classical
/-- the first of equal ones -/
noncomputable def ddA : List Cn → List Cn → List Cn
  | acc, [] => acc
  | acc, x :: xs => if x ∈ acc then ddA acc xs else ddA (acc ++ [x]) xs
/-- the members that a normal form gives -/
def pc (w : Bool) : Cn → List Cn
  | .nd w' ms => if w' = w then ms else [.nd w' ms]
  | f => [f]
def ntF : Cn → Cn
  | .at0 b => .at0 (!b)
  | .nt c => c
  | f => .nt f
noncomputable def fl (w : Bool) (xs : List Cn) : List Cn := xs.filter fun x => decide (x ≠ .at0 w)
def jnL (w : Bool) : List Cn → Cn
  | [] => .at0 w
  | [x] => x
  | ms => .nd w ms
noncomputable def jn (w : Bool) (raw : List Cn) : Cn := if Cn.at0 (!w) ∈ raw then .at0 (!w) else jnL w (fl w (ddA [] raw))
mutual
noncomputable def Cn.nrm : Cn → Cn
  | .nt c => ntF (Cn.nrm c)
  | .nd w cs => jn w (Cn.raws w cs)
  | .at0 w => .at0 w
  | .mat a p => .mat a p
  | .sam a b => .sam a b
  | .emp a => .emp a
noncomputable def Cn.raws (w : Bool) : List Cn → List Cn
  | [] => []
  | c :: cs => pc w (Cn.nrm c) ++ Cn.raws w cs
end
theorem raws_app (w : Bool) : ∀ a b : List Cn, Cn.raws w (a ++ b) = Cn.raws w a ++ Cn.raws w b
  | [], b => by simp [Cn.raws]
  | x :: a, b => by rw [List.cons_append, Cn.raws, Cn.raws, raws_app w a b, List.append_assoc]
theorem ddA_app : ∀ (a x y : List Cn), ddA a (x ++ y) = ddA (ddA a x) y
  | a, [], y => by simp [ddA]
  | a, x :: xs, y => by
    rw [List.cons_append, ddA, ddA]
    by_cases h : x ∈ a
    · rw [if_pos h, if_pos h, ddA_app]
    · rw [if_neg h, if_neg h, ddA_app]
theorem ddA_mem {x : Cn} : ∀ (a xs : List Cn), x ∈ ddA a xs ↔ x ∈ a ∨ x ∈ xs
  | a, [] => by simp [ddA]
  | a, y :: ys => by
    rw [ddA]
    by_cases h : y ∈ a
    · rw [if_pos h, ddA_mem, List.mem_cons]
      exact ⟨fun z => z.elim .inl fun z => .inr (.inr z), fun z => z.elim .inl fun z => z.elim (fun e => .inl (e ▸ h)) .inr⟩
    · rw [if_neg h, ddA_mem, List.mem_append, List.mem_singleton, List.mem_cons, or_assoc]
theorem ddA_nodup : ∀ (a xs : List Cn), a.Nodup → (ddA a xs).Nodup
  | a, [], h => by rw [ddA]; exact h
  | a, y :: ys, h => by
    rw [ddA]
    by_cases hy : y ∈ a
    · rw [if_pos hy]; exact ddA_nodup a ys h
    · rw [if_neg hy]
      refine ddA_nodup _ ys (List.nodup_append.mpr ⟨h, by simp, fun x hx z hz => ?_⟩)
      rw [List.mem_singleton.mp hz]
      rintro rfl
      exact hy hx
theorem ddA_len : ∀ (a xs : List Cn), (ddA a xs).length ≤ a.length + xs.length
  | a, [] => by rw [ddA]; simp
  | a, y :: ys => by
    rw [ddA, List.length_cons]
    by_cases hy : y ∈ a
    · rw [if_pos hy]; have := ddA_len a ys; omega
    · rw [if_neg hy]; have := ddA_len (a ++ [y]) ys; rw [List.length_append] at this; simp only [List.length_cons, List.length_nil] at this; omega
theorem ddA_dis : ∀ (a xs : List Cn), xs.Nodup → (∀ x ∈ xs, x ∉ a) → ddA a xs = a ++ xs
  | a, [], _, _ => by rw [ddA, List.append_nil]
  | a, y :: ys, h, hd => by
    rw [ddA, if_neg (hd y List.mem_cons_self), ddA_dis _ ys (List.nodup_cons.mp h).2 fun x hx => ?_]
    · rw [List.append_assoc]; rfl
    · intro hm
      rcases List.mem_append.mp hm with hm | hm
      · exact hd x (List.mem_cons_of_mem _ hx) hm
      · rw [List.mem_singleton.mp hm] at hx
        exact (List.nodup_cons.mp h).1 hx
theorem ddA_all : ∀ (a xs : List Cn), (∀ x ∈ xs, x ∈ a) → ddA a xs = a
  | a, [], _ => by rw [ddA]
  | a, y :: ys, h => by rw [ddA, if_pos (h y List.mem_cons_self), ddA_all a ys fun x hx => h x (List.mem_cons_of_mem _ hx)]
/-- first made different alone, then behind others -/
theorem ddA_ddA : ∀ (xs b a : List Cn), ddA b (ddA a xs) = ddA (ddA b a) xs
  | [], b, a => by rw [ddA, ddA]
  | x :: xs, b, a => by
    rw [ddA]
    by_cases h : x ∈ a
    · rw [if_pos h, ddA_ddA xs b a]
      conv => rhs; rw [ddA, if_pos ((ddA_mem b a).mpr (.inr h))]
    · rw [if_neg h, ddA_ddA xs b (a ++ [x]), ddA_app, ← ddA_app _ [x] xs]
      rfl
theorem fl_mem {w : Bool} {x : Cn} {xs : List Cn} : x ∈ fl w xs ↔ x ∈ xs ∧ x ≠ .at0 w := by unfold fl; rw [List.mem_filter, decide_eq_true_eq]
theorem fl_app (w : Bool) (a b : List Cn) : fl w (a ++ b) = fl w a ++ fl w b := by unfold fl; rw [List.filter_append]
theorem fl_id {w : Bool} {xs : List Cn} (h : Cn.at0 w ∉ xs) : fl w xs = xs := by
  unfold fl
  rw [List.filter_eq_self]
  intro x hx
  rw [decide_eq_true_eq]
  rintro rfl
  exact h hx
theorem fl_dd (w : Bool) : ∀ (xs a : List Cn), fl w (ddA a xs) = ddA (fl w a) (fl w xs)
  | [], a => by rw [ddA]; show _ = ddA _ []; rw [ddA]
  | x :: xs, a => by
    have e : fl w (x :: xs) = if x ≠ .at0 w then x :: fl w xs else fl w xs := by
      unfold fl
      rw [List.filter_cons]
      by_cases h : x = .at0 w <;> simp [h]
    rw [e]
    by_cases hx : x = .at0 w
    · rw [if_neg (fun z => z hx), ddA]
      by_cases h : x ∈ a
      · rw [if_pos h, fl_dd w xs a]
      · rw [if_neg h, fl_dd w xs _, fl_app]
        have : fl w [x] = [] := by unfold fl; simp [hx]
        rw [this, List.append_nil]
    · rw [if_pos hx, ddA, ddA]
      by_cases h : x ∈ a
      · rw [if_pos h, if_pos (fl_mem.mpr ⟨h, hx⟩), fl_dd w xs a]
      · rw [if_neg h, if_neg (fun z => h (fl_mem.mp z).1), fl_dd w xs _, fl_app]
        have : fl w [x] = [x] := by unfold fl; simp [hx]
        rw [this]
theorem fl_nodup {w : Bool} {xs : List Cn} (h : xs.Nodup) : (fl w xs).Nodup := h.sublist List.filter_sublist
/-- the same members, but for the neutral one -/
def Sim (w : Bool) (r r' : List Cn) : Prop := (Cn.at0 (!w) ∈ r ↔ Cn.at0 (!w) ∈ r') ∧ (Cn.at0 (!w) ∉ r → ∀ b, ddA b (fl w r) = ddA b (fl w r'))
theorem Sim.refl (w : Bool) (r : List Cn) : Sim w r r := ⟨Iff.rfl, fun _ _ => rfl⟩
theorem Sim.app {w : Bool} {a a' b b' : List Cn} (h : Sim w a a') (k : Sim w b b') : Sim w (a ++ b) (a' ++ b') := by
  refine ⟨by rw [List.mem_append, List.mem_append, h.1, k.1], fun hn c => ?_⟩
  rw [List.mem_append, not_or] at hn
  rw [fl_app, fl_app, ddA_app, ddA_app, h.2 hn.1, k.2 hn.2]
theorem Sim.jn {w : Bool} {r r' : List Cn} (h : Sim w r r') : jn w r = jn w r' := by
  unfold Lw.jn
  by_cases hf : Cn.at0 (!w) ∈ r
  · rw [if_pos hf, if_pos (h.1.mp hf)]
  · rw [if_neg hf, if_neg (fun z => hf (h.1.mpr z)), fl_dd, fl_dd]
    have := h.2 hf (fl w [])
    rw [this]
theorem not_ne (w : Bool) : Cn.at0 (!w) ≠ .at0 w := by cases w <;> simp
theorem pc_one {w : Bool} {c : Cn} (h : ∀ cs, c ≠ .nd w cs) : pc w c = [c] := by
  unfold pc
  split
  · rename_i w' ms
    split
    · rename_i e; subst e; exact absurd rfl (h _)
    · rfl
  · rfl
/-- the members of a nested one of the same word stand for themselves -/
theorem sim_nest {w : Bool} {r r' : List Cn} (h : Sim w r r') (hr : ∀ x ∈ r', ∀ cs, x ≠ .nd w cs) : Sim w r (pc w (jn w r')) := by
  unfold Lw.jn
  by_cases hf : Cn.at0 (!w) ∈ r
  · rw [if_pos (h.1.mp hf)]
    exact ⟨⟨fun _ => by simp [pc], fun _ => hf⟩, fun z => absurd hf z⟩
  · have hf' : Cn.at0 (!w) ∉ r' := fun z => hf (h.1.mpr z)
    rw [if_neg hf']
    have key : ∀ b, ddA b (fl w (ddA [] r')) = ddA b (fl w r') := fun b => by
      rw [fl_dd, ddA_ddA]
      have : fl w ([] : List Cn) = [] := rfl
      rw [this, ddA]
    have mem : ∀ x, x ∈ fl w (ddA [] r') → x ∈ r' := fun x hx => by
      have := (fl_mem.mp hx).1
      rw [ddA_mem] at this
      exact this.elim (fun z => (List.not_mem_nil z).elim) id
    have nn : Cn.at0 w ∉ fl w (ddA [] r') := fun z => (fl_mem.mp z).2 rfl
    generalize fl w (ddA [] r') = m at *
    have hm : Cn.at0 (!w) ∉ m := fun z => hf' (mem _ z)
    cases m with
    | nil =>
      refine ⟨⟨fun z => absurd z hf, fun z => ?_⟩, fun _ b => ?_⟩
      · simp only [jnL, pc, List.mem_singleton] at z
        exact absurd z (not_ne w)
      · rw [h.2 hf b, ← key b]
        have : fl w (pc w (jnL w [])) = [] := by simp [jnL, pc, fl]
        rw [this]
    | cons x xs =>
      cases xs with
      | nil =>
        have e : pc w (jnL w [x]) = [x] := by
          exact pc_one (hr x (mem x List.mem_cons_self))
        rw [e]
        refine ⟨⟨fun z => absurd z hf, fun z => absurd z hm⟩, fun _ b => ?_⟩
        rw [h.2 hf b, ← key b, fl_id nn]
      | cons y ys =>
        have e : pc w (jnL w (x :: y :: ys)) = x :: y :: ys := by simp [jnL, pc]
        rw [e]
        refine ⟨⟨fun z => absurd z hf, fun z => absurd z hm⟩, fun _ b => ?_⟩
        rw [h.2 hf b, ← key b, fl_id nn]
/-- normal forms -/
inductive NF : Cn → Prop
  | at0 (b : Bool) : NF (.at0 b)
  | mat (a p : Str) : NF (.mat a p)
  | sam (a b : Str) : NF (.sam a b)
  | emp (a : Str) : NF (.emp a)
  | nt (c : Cn) : NF c → (∀ d, c ≠ .nt d) → (∀ b, c ≠ .at0 b) → NF (.nt c)
  | nd (w : Bool) (ms : List Cn) : 2 ≤ ms.length → ms.Nodup → (∀ m ∈ ms, NF m) → (∀ m ∈ ms, ∀ b, m ≠ .at0 b) → (∀ m ∈ ms, ∀ cs, m ≠ .nd w cs) → NF (.nd w ms)
theorem pc_nf {w : Bool} {c : Cn} (h : NF c) : ∀ m ∈ pc w c, NF m ∧ ∀ cs, m ≠ .nd w cs := by
  cases h with
  | nd w' ms h1 h2 h3 h4 h5 =>
    unfold pc
    by_cases e : w' = w
    · subst e
      simp only [if_true]
      exact fun m hm => ⟨h3 m hm, h5 m hm⟩
    · simp only [if_neg e]
      intro m hm
      rw [List.mem_singleton.mp hm]
      exact ⟨.nd _ _ h1 h2 h3 h4 h5, fun cs z => by injection z with z1 z2; exact e z1⟩
  | at0 b => intro m hm; simp only [pc, List.mem_singleton] at hm; subst hm; exact ⟨.at0 _, fun cs z => by cases z⟩
  | mat a p => intro m hm; simp only [pc, List.mem_singleton] at hm; subst hm; exact ⟨.mat _ _, fun cs z => by cases z⟩
  | sam a b => intro m hm; simp only [pc, List.mem_singleton] at hm; subst hm; exact ⟨.sam _ _, fun cs z => by cases z⟩
  | emp a => intro m hm; simp only [pc, List.mem_singleton] at hm; subst hm; exact ⟨.emp _, fun cs z => by cases z⟩
  | nt c h1 h2 h3 => intro m hm; simp only [pc, List.mem_singleton] at hm; subst hm; exact ⟨.nt _ h1 h2 h3, fun cs z => by cases z⟩
theorem jn_nf {w : Bool} {r : List Cn} (h : ∀ m ∈ r, NF m ∧ ∀ cs, m ≠ .nd w cs) : NF (jn w r) := by
  unfold jn
  by_cases hf : Cn.at0 (!w) ∈ r
  · rw [if_pos hf]; exact .at0 _
  · rw [if_neg hf]
    have mem : ∀ x, x ∈ fl w (ddA [] r) → x ∈ r := fun x hx => by
      have := (fl_mem.mp hx).1
      rw [ddA_mem] at this
      exact this.elim (fun z => (List.not_mem_nil z).elim) id
    have nn : Cn.at0 w ∉ fl w (ddA [] r) := fun z => (fl_mem.mp z).2 rfl
    have nd : (fl w (ddA [] r)).Nodup := fl_nodup (ddA_nodup [] r List.nodup_nil)
    generalize fl w (ddA [] r) = m at *
    match m with
    | [] => exact .at0 _
    | [x] => exact (h x (mem x List.mem_cons_self)).1
    | x :: y :: ys =>
      refine .nd w _ (by simp) nd (fun m hm => (h m (mem m hm)).1) (fun m hm b z => ?_) fun m hm => (h m (mem m hm)).2
      subst z
      by_cases e : b = w
      · subst e; exact nn hm
      · have : b = !w := by cases b <;> cases w <;> simp at e ⊢
        subst this
        exact hf (mem _ hm)
mutual
theorem nrm_nf : ∀ c : Cn, NF c.nrm
  | .at0 w => by rw [Cn.nrm]; exact .at0 _
  | .mat _ _ => by rw [Cn.nrm]; exact .mat _ _
  | .sam _ _ => by rw [Cn.nrm]; exact .sam _ _
  | .emp _ => by rw [Cn.nrm]; exact .emp _
  | .nt c => by
    have h := nrm_nf c
    rw [Cn.nrm]
    generalize c.nrm = f at *
    cases h with
    | at0 b => exact .at0 _
    | nt d h1 h2 h3 => exact h1
    | mat a p => exact .nt _ (.mat _ _) (fun d z => by cases z) fun d z => by cases z
    | sam a p => exact .nt _ (.sam _ _) (fun d z => by cases z) fun d z => by cases z
    | emp a => exact .nt _ (.emp _) (fun d z => by cases z) fun d z => by cases z
    | nd w ms h1 h2 h3 h4 h5 => exact .nt _ (.nd _ _ h1 h2 h3 h4 h5) (fun d z => by cases z) fun d z => by cases z
  | .nd w cs => by rw [Cn.nrm]; exact jn_nf (raws_nf w cs)
theorem raws_nf (w : Bool) : ∀ cs : List Cn, ∀ m ∈ Cn.raws w cs, NF m ∧ ∀ ds, m ≠ .nd w ds
  | [] => by rw [Cn.raws]; exact fun m h => (List.not_mem_nil h).elim
  | c :: cs => by
    rw [Cn.raws]
    intro m hm
    rcases List.mem_append.mp hm with hm | hm
    · exact pc_nf (nrm_nf c) m hm
    · exact raws_nf w cs m hm
end
mutual
theorem nf_nrm : ∀ c : Cn, NF c → c.nrm = c
  | .at0 _, _ => by rw [Cn.nrm]
  | .mat _ _, _ => by rw [Cn.nrm]
  | .sam _ _, _ => by rw [Cn.nrm]
  | .emp _, _ => by rw [Cn.nrm]
  | .nt c, h => by
    cases h with
    | nt _ h1 h2 h3 =>
      rw [Cn.nrm, nf_nrm c h1]
      unfold ntF
      split
      · exact absurd rfl (h3 _)
      · exact absurd rfl (h2 _)
      · rfl
  | .nd w ms, h => by
    cases h with
    | nd _ _ h1 h2 h3 h4 h5 =>
      rw [Cn.nrm, nf_raws w ms h3 h5]
      unfold jn
      rw [if_neg (fun z => h4 _ z _ rfl), ddA_dis [] ms h2 (fun x _ z => (List.not_mem_nil z).elim), List.nil_append, fl_id (fun z => h4 _ z _ rfl)]
      match ms, h1 with
      | x :: y :: r, _ => rfl
theorem nf_raws (w : Bool) : ∀ cs : List Cn, (∀ m ∈ cs, NF m) → (∀ m ∈ cs, ∀ ds, m ≠ .nd w ds) → Cn.raws w cs = cs
  | [], _, _ => by rw [Cn.raws]
  | c :: cs, h, k => by
    rw [Cn.raws, nf_nrm c (h c List.mem_cons_self), pc_one (k c List.mem_cons_self), nf_raws w cs (fun m hm => h m (List.mem_cons_of_mem _ hm)) fun m hm => k m (List.mem_cons_of_mem _ hm)]
    rfl
end
/-! depth and size -/
theorem pc_cok {N R : List Str} {n : Nat} {w : Bool} {c : Cn} (h : COk N R n c) : ∀ m ∈ pc w c, COk N R n m := by
  unfold pc
  split
  · rename_i w' ms
    split
    · cases h with
      | nd n _ _ h => exact fun m hm => (h m hm).mono (by omega)
    · exact fun m hm => by rw [List.mem_singleton.mp hm]; exact h
  · exact fun m hm => by rw [List.mem_singleton.mp hm]; exact h
theorem jn_cok {N R : List Str} {n : Nat} {w : Bool} {r : List Cn} (h : ∀ m ∈ r, COk N R n m) : COk N R (n + 1) (jn w r) := by
  unfold jn
  by_cases hf : Cn.at0 (!w) ∈ r
  · rw [if_pos hf]; exact .at0 _ _
  · rw [if_neg hf]
    have mem : ∀ x, x ∈ fl w (ddA [] r) → x ∈ r := fun x hx => by
      have := (fl_mem.mp hx).1
      rw [ddA_mem] at this
      exact this.elim (fun z => (List.not_mem_nil z).elim) id
    generalize fl w (ddA [] r) = m at *
    match m with
    | [] => exact .at0 _ _
    | [x] => exact (h x (mem x List.mem_cons_self)).mono (by omega)
    | x :: y :: ys => exact .nd _ _ _ fun m hm => h m (mem m hm)
theorem cok_pos {N R : List Str} {n : Nat} {c : Cn} (h : COk N R n c) : 1 ≤ n := by cases h <;> omega
theorem ntF_cok {N R : List Str} {n : Nat} {c : Cn} (h : COk N R n c) : COk N R (n + 1) (ntF c) := by
  unfold ntF
  split
  · exact .at0 _ _
  · cases h with
    | nt n _ h => exact h.mono (by omega)
  · exact .nt _ _ h
mutual
theorem nrm_cok {N R : List Str} : ∀ (c : Cn) (n : Nat), COk N R n c → COk N R n c.nrm
  | .at0 w, n, h => by rw [Cn.nrm]; exact h
  | .mat _ _, n, h => by rw [Cn.nrm]; exact h
  | .sam _ _, n, h => by rw [Cn.nrm]; exact h
  | .emp _, n, h => by rw [Cn.nrm]; exact h
  | .nt c, n, h => by
    cases h with
    | nt n _ h => rw [Cn.nrm]; exact ntF_cok (nrm_cok c n h)
  | .nd w cs, n, h => by
    cases h with
    | nd n _ _ h => rw [Cn.nrm]; exact jn_cok (raws_cok w cs n h)
theorem raws_cok {N R : List Str} (w : Bool) : ∀ (cs : List Cn) (n : Nat), (∀ c ∈ cs, COk N R n c) → ∀ m ∈ Cn.raws w cs, COk N R n m
  | [], n, _ => by rw [Cn.raws]; exact fun m h => (List.not_mem_nil h).elim
  | c :: cs, n, h => by
    rw [Cn.raws]
    intro m hm
    rcases List.mem_append.mp hm with hm | hm
    · exact pc_cok (nrm_cok c n (h c List.mem_cons_self)) m hm
    · exact raws_cok w cs n (fun c hc => h c (List.mem_cons_of_mem _ hc)) m hm
end
theorem pc_sz {w : Bool} {c : Cn} : Cn.sizes (pc w c) ≤ c.size := by
  unfold pc
  split
  · split
    · rw [Cn.size]; omega
    · rw [Cn.sizes, Cn.sizes]; omega
  · rw [Cn.sizes, Cn.sizes]; omega
theorem szs_sub : ∀ {a b : List Cn}, a.Sublist b → Cn.sizes a ≤ Cn.sizes b
  | _, _, .slnil => Nat.le_refl _
  | _, _, .cons _ h => by have := szs_sub h; rw [Cn.sizes]; omega
  | _, _, .cons_cons _ h => by have := szs_sub h; rw [Cn.sizes, Cn.sizes]; omega
theorem dd_sz : ∀ (xs a : List Cn), Cn.sizes (ddA a xs) ≤ Cn.sizes a + Cn.sizes xs
  | [], a => by rw [ddA]; omega
  | x :: xs, a => by
    rw [ddA, Cn.sizes]
    by_cases h : x ∈ a
    · rw [if_pos h]; have := dd_sz xs a; omega
    · rw [if_neg h]; have := dd_sz xs (a ++ [x]); rw [Cn.sizes_app, Cn.sizes, Cn.sizes] at this; omega
theorem jn_sz {w : Bool} {r : List Cn} : (jn w r).size ≤ 1 + Cn.sizes r := by
  unfold jn
  by_cases hf : Cn.at0 (!w) ∈ r
  · rw [if_pos hf, Cn.size]; omega
  · rw [if_neg hf]
    have h1 : Cn.sizes (fl w (ddA [] r)) ≤ Cn.sizes r := Nat.le_trans (szs_sub List.filter_sublist) (by have := dd_sz r []; rw [show Cn.sizes [] = 0 from by rw [Cn.sizes]] at this; omega)
    generalize fl w (ddA [] r) = m at *
    match m with
    | [] => show (Cn.at0 w).size ≤ _; rw [Cn.size]; omega
    | [x] => show x.size ≤ _; rw [Cn.sizes, Cn.sizes] at h1; omega
    | x :: y :: ys => show (Cn.nd w _).size ≤ _; rw [Cn.size]; omega
mutual
theorem nrm_sz : ∀ c : Cn, c.nrm.size ≤ c.size
  | .at0 w => by rw [Cn.nrm]; omega
  | .mat _ _ => by rw [Cn.nrm]; omega
  | .sam _ _ => by rw [Cn.nrm]; omega
  | .emp _ => by rw [Cn.nrm]; omega
  | .nt c => by
    have := nrm_sz c
    rw [Cn.nrm, Cn.size]
    generalize c.nrm = f at *
    unfold ntF
    split
    · rw [Cn.size]; omega
    · rw [Cn.size] at this; omega
    · rw [Cn.size]; omega
  | .nd w cs => by
    have := raws_sz w cs
    have := @jn_sz w (Cn.raws w cs)
    rw [Cn.nrm, Cn.size]; omega
theorem raws_sz (w : Bool) : ∀ cs : List Cn, Cn.sizes (Cn.raws w cs) ≤ Cn.sizes cs
  | [] => by rw [Cn.raws]; omega
  | c :: cs => by
    have := raws_sz w cs
    have := nrm_sz c
    have := @pc_sz w c.nrm
    rw [Cn.raws, Cn.sizes_app, Cn.sizes]; omega
end
end
/-! normal forms, as the program makes them -/
theorem at0_t : (Cn.at0 true).d = .tup [.str (PySem.Str.ofString "always")] := by rw [Cn.d]; rfl
theorem at0_f : (Cn.at0 false).d = .tup [.str (PySem.Str.ofString "never")] := by rw [Cn.d]; rfl
theorem wNd_t : wNd true = PySem.Str.ofString "and" := rfl
theorem wNd_f : wNd false = PySem.Str.ofString "or" := rfl
theorem wNd_inj {a b : Bool} (h : wNd a = wNd b) : a = b := by
  cases a <;> cases b <;> first | rfl | exact absurd h (by decide +kernel)
theorem wAt_inj {a b : Bool} (h : wAt a = wAt b) : a = b := by
  cases a <;> cases b <;> first | rfl | exact absurd h (by decide +kernel)
/-- which of the shapes a word tells -/
theorem Cn.w_nd {c : Cn} {w : Bool} (h : c.w = wNd w) : ∃ cs, c = .nd w cs := by
  cases c with
  | nd w' cs => exact ⟨cs, by rw [wNd_inj (show wNd w' = wNd w from h)]⟩
  | at0 b => exact absurd h (by show wAt b ≠ _; cases b <;> cases w <;> decide +kernel)
  | mat _ _ => exact absurd h (by show sMat ≠ _; cases w <;> decide +kernel)
  | sam _ _ => exact absurd h (by show sSam ≠ _; cases w <;> decide +kernel)
  | emp _ => exact absurd h (by show sEmp ≠ _; cases w <;> decide +kernel)
  | nt _ => exact absurd h (by show sNot ≠ _; cases w <;> decide +kernel)
theorem Cn.w_nt {c : Cn} (h : c.w = sNot) : ∃ d, c = .nt d := by
  cases c with
  | nt d => exact ⟨d, rfl⟩
  | at0 b => exact absurd h (by show wAt b ≠ _; cases b <;> decide +kernel)
  | mat _ _ => exact absurd h (by show sMat ≠ _; decide +kernel)
  | sam _ _ => exact absurd h (by show sSam ≠ _; decide +kernel)
  | emp _ => exact absurd h (by show sEmp ≠ _; decide +kernel)
  | nd w _ => exact absurd h (by show wNd w ≠ _; cases w <;> decide +kernel)
theorem Cn.w_at {c : Cn} {w : Bool} (h : c.w = wAt w) : c = .at0 w := by
  cases c with
  | at0 b => rw [wAt_inj (show wAt b = wAt w from h)]
  | nt d => exact absurd h (by show sNot ≠ _; cases w <;> decide +kernel)
  | mat _ _ => exact absurd h (by show sMat ≠ _; cases w <;> decide +kernel)
  | sam _ _ => exact absurd h (by show sSam ≠ _; cases w <;> decide +kernel)
  | emp _ => exact absurd h (by show sEmp ≠ _; cases w <;> decide +kernel)
  | nd b _ => exact absurd h (by show wNd b ≠ _; cases b <;> cases w <;> decide +kernel)
mutual
theorem Cn.d_inj : ∀ {a b : Cn}, a.d = b.d → a = b
  | a, b, h => by
    have h0 := h
    rw [a.d_e, b.d_e] at h0
    injection h0 with h0
    injection h0 with h1 h2
    injection h1 with h1
    cases a with
    | at0 w => exact (Cn.w_at (w := w) h1.symm).symm
    | mat n p =>
      obtain ⟨n', p', rfl⟩ := Cn.w_mat (c := b) h1.symm
      simp only [Cn.tl, List.cons.injEq, D.str.injEq] at h2
      rw [h2.1, h2.2.1]
    | sam x y =>
      cases b with
      | sam x' y' =>
        simp only [Cn.tl, List.cons.injEq, D.str.injEq] at h2
        rw [h2.1, h2.2.1]
      | at0 w => exact absurd h1 (by show sSam ≠ wAt w; cases w <;> decide +kernel)
      | mat _ _ => exact absurd h1 (by show sSam ≠ sMat; decide +kernel)
      | emp _ => exact absurd h1 (by show sSam ≠ sEmp; decide +kernel)
      | nt _ => exact absurd h1 (by show sSam ≠ sNot; decide +kernel)
      | nd w _ => exact absurd h1 (by show sSam ≠ wNd w; cases w <;> decide +kernel)
    | emp x =>
      cases b with
      | emp x' =>
        simp only [Cn.tl, List.cons.injEq, D.str.injEq] at h2
        rw [h2.1]
      | at0 w => exact absurd h1 (by show sEmp ≠ wAt w; cases w <;> decide +kernel)
      | mat _ _ => exact absurd h1 (by show sEmp ≠ sMat; decide +kernel)
      | sam _ _ => exact absurd h1 (by show sEmp ≠ sSam; decide +kernel)
      | nt _ => exact absurd h1 (by show sEmp ≠ sNot; decide +kernel)
      | nd w _ => exact absurd h1 (by show sEmp ≠ wNd w; cases w <;> decide +kernel)
    | nt c =>
      obtain ⟨d, rfl⟩ := Cn.w_nt (c := b) h1.symm
      simp only [Cn.tl, List.cons.injEq] at h2
      rw [Cn.d_inj h2.1]
    | nd w cs =>
      obtain ⟨ds, rfl⟩ := Cn.w_nd (c := b) (w := w) h1.symm
      simp only [Cn.tl] at h2
      rw [Cn.ds_inj h2]
theorem Cn.ds_inj : ∀ {as bs : List Cn}, Cn.ds as = Cn.ds bs → as = bs
  | [], [], _ => rfl
  | [], _ :: _, h => by rw [Cn.ds, Cn.ds] at h; cases h
  | _ :: _, [], h => by rw [Cn.ds, Cn.ds] at h; cases h
  | a :: as, b :: bs, h => by
    rw [Cn.ds, Cn.ds] at h
    injection h with h1 h2
    rw [Cn.d_inj h1, Cn.ds_inj h2]
end
/-- a condition that can be laid side by side with others -/
structure Fine (c : Cn) : Prop where
  sh : Shp 8 c.d
  pl : c.d.pl = true
theorem Fine.s {c : Cn} (h : Fine c) : shp c.d = true := h.sh.shp (by omega)
theorem cok_fine {N R : List Str} (hN : ∀ z ∈ N, LtrZ z) (hR : ∀ z ∈ R, LtrZ z) {n : Nat} {c : Cn} (h : COk N R n c) (hn : n ≤ 7) : Fine c := ⟨(cok_shp hN hR h).1.mono (by omega), (cok_shp hN hR h).2⟩
theorem fine_at (b : Bool) : Fine (.at0 b) := cok_fine (N := []) (R := []) (fun _ h => (List.not_mem_nil h).elim) (fun _ h => (List.not_mem_nil h).elim) (COk.at0 0 b) (by omega)
section
open Classical
theorem mem_d {x : Cn} {ys : List Cn} : x.d ∈ ys.map Cn.d ↔ x ∈ ys := by
  rw [List.mem_map]
  exact ⟨fun ⟨y, hy, e⟩ => Cn.d_inj e ▸ hy, fun h => ⟨x, h, rfl⟩⟩
theorem fine_l {ys : List Cn} (h : ∀ y ∈ ys, Fine y) : shp (.lst (ys.map Cn.d)) = true := (shp_lst (k := 8) fun _ hx => let ⟨y, hy, e⟩ := List.mem_map.mp hx; e ▸ (h y hy).sh).shp (by omega)
theorem fine_t {ys : List Cn} (h : ∀ y ∈ ys, Fine y) : shp (.tup (ys.map Cn.d)) = true := (shp_tup (k := 8) fun _ hx => let ⟨y, hy, e⟩ := List.mem_map.mp hx; e ▸ (h y hy).sh).shp (by omega)
theorem inL_cn {x : Cn} {ys : List Cn} (hx : Fine x) (h : ∀ y ∈ ys, Fine y) : inL x.d (ys.map Cn.d) = decide (x ∈ ys) := by
  have := inL_pl hx.pl (ds := ys.map Cn.d) fun _ hd => let ⟨y, hy, e⟩ := List.mem_map.mp hd; e ▸ (h y hy).pl
  rw [mem_d] at this
  by_cases hm : x ∈ ys
  · rw [decide_eq_true hm]; exact this.mpr hm
  · rw [decide_eq_false hm]; exact Bool.eq_false_iff.mpr fun z => hm (this.mp z)
theorem in_cn {x : Cn} {ys : List Cn} (hx : Fine x) (h : ∀ y ∈ ys, Fine y) : gIn [x.d, .lst (ys.map Cn.d)] = some (bO (decide (x ∈ ys))) := by rw [gIn_l hx.s (fine_l h), inL_cn hx h]
theorem notin_cn {x : Cn} {ys : List Cn} (hx : Fine x) (h : ∀ y ∈ ys, Fine y) : gNotIn [x.d, .lst (ys.map Cn.d)] = some (bO (!decide (x ∈ ys))) := by rw [gNotIn_l hx.s (fine_l h), inL_cn hx h]
theorem in_cnT {x : Cn} {ys : List Cn} (hx : Fine x) (h : ∀ y ∈ ys, Fine y) : gIn [x.d, .tup (ys.map Cn.d)] = some (bO (decide (x ∈ ys))) := by rw [gIn_t hx.s (fine_t h), inL_cn hx h]
theorem eq_cn {x y : Cn} (hx : Fine x) (hy : Fine y) : gEq [x.d, y.d] = some (bO (decide (x = y))) := by
  rw [gEq_pl hx.pl hy.pl hx.s hy.s]
  congr 2
  exact decide_eq_decide.mpr ⟨Cn.d_inj, fun h => by rw [h]⟩
theorem ne_cn {x y : Cn} (hx : Fine x) (hy : Fine y) : gNe [x.d, y.d] = some (bO (!decide (x = y))) := by
  rw [gNe_pl hx.pl hy.pl hx.s hy.s]
  congr 3
  exact decide_eq_decide.mpr ⟨Cn.d_inj, fun h => by rw [h]⟩
end
theorem gIx0_cn (c : Cn) : gIx [c.d, .int 0] = some (sO c.w) := by rw [c.d_e, gIx_t, atI_c0]; rfl
theorem sl1_cn (c : Cn) : gSl true false [c.d, .int 1] = some (.fr (.tup c.tl)) := by
  rw [c.d_e]
  have := @cut1_c (.str c.w) c.tl
  simp [gSl10, slD_t, this]
section
open Classical
variable {S1 S2 S3 : Fn}
theorem mem_loop0 {a0 a1 a3 a4 a5 : Option O} (xs : List Cn) (hx : ∀ x ∈ xs, Fine x) : ∀ (acc : List Cn) (q : Option O), (∀ x ∈ acc, Fine x) → acc.length + xs.length ≤ 1000 →
    Ev (forL (.n 6) (B_members_of_0 S1 S2 S3) (xs.map Cn.d) [a0, a1, some (.lst (acc.map Cn.d)), a3, a4, a5, q]) (fun fl e => fl = .next ∧ ∃ q, e = [a0, a1, some (.lst ((ddA acc xs).map Cn.d)), a3, a4, a5, q]) (fun _ _ => False) := by
  intro acc q ha hl
  refine Ev_forP (f := Cn.d) (fun done e => @Dn.hb _ ⟨fun e => ∃ q, e = [a0, a1, some (.lst ((ddA acc done).map Cn.d)), a3, a4, a5, q]⟩ e) _ xs [] _ ⟨q, by rw [ddA]⟩ ?_ ?_
  · rintro pre x post e he ⟨q, rfl⟩
    refine ⟨_, rfl, ?_⟩
    have hxm : x ∈ xs := by simpa using mem_mid he
    have he2 : xs = pre ++ x :: post := by simpa using he
    have hfin : ∀ y ∈ ddA acc pre, Fine y := fun y hy => by
      rcases (ddA_mem _ _).mp hy with hy | hy
      · exact ha y hy
      · exact hx y (by rw [he2]; exact List.mem_append_left _ hy)
    have hn := notin_cn (hx x hxm) hfin
    have hl2 : (ddA acc pre).length < sizeLine := szl1_of' (by
      have h1 := ddA_len acc pre
      have h2 := congrArg List.length he2
      rw [List.length_append, List.length_cons] at h2
      omega)
    have nx : ddA acc (pre ++ [x]) = if x ∈ ddA acc pre then ddA acc pre else ddA acc pre ++ [x] := by
      rw [ddA_app, ddA, ddA, ddA]
    unfold B_members_of_0
    clear he he2 hfin hxm
    by_cases hm : x ∈ ddA acc pre
    · rw [if_pos hm] at nx
      rw [decide_eq_true hm] at hn
      clear hm
      walk_at "evd"
      exact hbi ⟨_, by rw [nx]⟩
    · rw [if_neg hm] at nx
      rw [decide_eq_false hm] at hn
      clear hm
      walk_at "evd"
      exact hbi ⟨_, by rw [nx, List.map_append]; rfl⟩
  · rintro e ⟨q, rfl⟩
    exact ⟨rfl, q, rfl⟩
end
theorem members_ok (w : Bool) (cs : List Cn) (n : Nat) (hf : ∀ x ∈ Cn.raws w cs, Fine x) (hs : Cn.sizes cs ≤ 1000) (hc : ∀ c ∈ cs, F_normal n [.fr c.d] = some (.ok (.fr c.nrm.d) [.fr c.d])) :
    F_members_of (n + 1) [.fr (.str (wNd w)), .fr (.tup (cs.map Cn.d))] = some (.ok (.lst ((ddA [] (Cn.raws w cs)).map Cn.d)) [.fr (.str (wNd w)), .fr (.tup (cs.map Cn.d))]) := by
  have H : FEv (F_members_of (n + 1) [.fr (.str (wNd w)), .fr (.tup (cs.map Cn.d))]) (@hq _ _ ⟨fun o os => o = .lst ((ddA [] (Cn.raws w cs)).map Cn.d) ∧ os = [.fr (.str (wNd w)), .fr (.tup (cs.map Cn.d))]⟩) (fun _ _ => False) := by
    unfold F_members_of G_members_of
    walk_at "evd"
    refine Ev_forP (f := Cn.d) (fun done e => @Dn.hb _ ⟨fun e => ∃ q3 q4 q5 q6, e = [some (sO (wNd w)), some (.fr (.tup (cs.map Cn.d))), some (.lst ((ddA [] (Cn.raws w done)).map Cn.d)), q3, q4, q5, q6]⟩ e) _ cs [] _ ⟨_, _, _, _, by rw [Cn.raws, ddA]; rfl⟩ ?_ ?_
    · rintro pre x post e he ⟨q3, q4, q5, q6, rfl⟩
      refine ⟨_, rfl, ?_⟩
      have hxm : x ∈ cs := by simpa using mem_mid he
      have he2 : cs = pre ++ x :: post := by simpa using he
      have hcx := hc x hxm
      have hr : Cn.raws w cs = Cn.raws w pre ++ (pc w x.nrm ++ Cn.raws w post) := by rw [he2, raws_app, Cn.raws]
      have hfp : ∀ y ∈ pc w x.nrm, Fine y := fun y hy => hf y (by rw [hr]; exact List.mem_append_right _ (List.mem_append_left _ hy))
      have hfa : ∀ y ∈ ddA [] (Cn.raws w pre), Fine y := fun y hy => hf y (by
        rw [hr]
        exact List.mem_append_left _ (((ddA_mem _ _).mp hy).elim (fun z => (List.not_mem_nil z).elim) id))
      have hl : (ddA [] (Cn.raws w pre)).length + (pc w x.nrm).length ≤ 1000 := by
        have h1 := ddA_len [] (Cn.raws w pre)
        have h2 := congrArg Cn.sizes hr
        rw [Cn.sizes_app, Cn.sizes_app] at h2
        have h3 := raws_sz w cs
        have h4 := szs_len (Cn.raws w pre)
        have h5 := szs_len (pc w x.nrm)
        have h6 : ([] : List Cn).length = 0 := rfl
        omega
      have lp := fun a0 a1 a3 a4 a5 q => (mem_loop0 (S1 := F_normal n) (S2 := F_joined n) (S3 := F_members_of n) (a0 := a0) (a1 := a1) (a3 := a3) (a4 := a4) (a5 := a5) (pc w x.nrm) hfp (ddA [] (Cn.raws w pre)) q hfa hl)
      have nx : ddA (ddA [] (Cn.raws w pre)) (pc w x.nrm) = ddA [] (Cn.raws w (pre ++ [x])) := by
        rw [← ddA_app, raws_app, Cn.raws, Cn.raws, List.append_nil]
      rw [nx] at lp
      have hx0 := gIx0_cn x.nrm
      have hx1 := sl1_cn x.nrm
      unfold B_members_of_1
      by_cases hw : x.nrm.w = wNd w
      · obtain ⟨ms, hms⟩ := Cn.w_nd hw
        have hpc : pc w x.nrm = ms := by rw [hms]; unfold pc; simp
        rw [hms] at hx1
        have htl : (Cn.nd w ms).tl = ms.map Cn.d := Cn.ds_map ms
        rw [htl] at hx1
        rw [hpc] at lp
        rw [← hms] at hx1
        obtain ⟨fl, e3, g1, rfl, q, rfl⟩ := (lp (some (sO (wNd w))) (some (.fr (.tup (cs.map Cn.d)))) (some (.fr x.d)) (some (.fr x.nrm.d)) (some (.fr (.tup (ms.map Cn.d)))) q6).get
        clear lp he he2 hc hr hfp hfa hl nx hf hs hms hpc htl hxm
        walk_at "evd"
        exact hbi ⟨_, _, _, _, rfl⟩
      · have hpc : pc w x.nrm = [x.nrm] := pc_one fun ms z => hw (by rw [z]; rfl)
        rw [hpc] at lp
        obtain ⟨fl, e3, g1, rfl, q, rfl⟩ := (lp (some (sO (wNd w))) (some (.fr (.tup (cs.map Cn.d)))) (some (.fr x.d)) (some (.fr x.nrm.d)) (some (.fr (.tup [x.nrm.d]))) q6).get
        rw [List.map_singleton] at g1
        clear lp he he2 hc hr hfp hfa hl nx hf hs hpc hxm
        walk_at "evd"
        exact hbi ⟨_, _, _, _, rfl⟩
    · rintro e ⟨q3, q4, q5, q6, rfl⟩
      clear hc
      walk_at "evd"
      exact hqi ⟨rfl, rfl⟩
  obtain ⟨o, os, h, rfl, rfl⟩ := H.get
  exact h
theorem cn_nd_d (w : Bool) (ms : List Cn) : (Cn.nd w ms).d = .tup (.str (wNd w) :: ms.map Cn.d) := by rw [Cn.d, Cn.ds_map]
section
open Classical
theorem fl_lc {own : List Nat} {tg : Tg} {t : M Bool} {C : M O} {e : Sl} (w : Bool) (xs : List Cn) (hl : xs.length < 10000000) (hs : ∀ x ∈ xs, ∃ e1, tg.go x.d e = some e1 ∧ Ev (t e1) (fun b e2 => b = !decide (x = .at0 w) ∧ if (!decide (x = Cn.at0 w)) = true then Ev (C e2) (fun o e3 => o.d = x.d ∧ wipeE e3 own = e) (fun _ _ => False) else wipeE e2 own = e) (fun _ _ => False)) :
    lcL own tg t C (xs.map Cn.d) [] e = some ((fl w xs).map Cn.d, e) := by
  have := lc_filt (own := own) (tg := tg) (t := t) (C := C) (e := e) Cn.d Cn.d (fun x => !decide (x = .at0 w)) xs hl hs
  rw [this]
  congr 3
  unfold fl
  refine List.filter_congr fun x _ => ?_
  by_cases h : x = Cn.at0 w
  · rw [decide_eq_true h, decide_eq_false fun z => z h]; rfl
  · rw [decide_eq_false h, decide_eq_true h]; rfl
theorem joined_ok (w : Bool) (cs : List Cn) (n : Nat) (hf : ∀ x ∈ Cn.raws w cs, Fine x) (hs : Cn.sizes cs ≤ 1000) (hc : ∀ c ∈ cs, F_normal n [.fr c.d] = some (.ok (.fr c.nrm.d) [.fr c.d])) :
    F_joined (n + 2) [.fr (.str (wNd w)), .fr (.tup (cs.map Cn.d)), .fr (Cn.at0 w).d, .fr (Cn.at0 (!w)).d] = some (.ok (.fr (jn w (Cn.raws w cs)).d) [.fr (.str (wNd w)), .fr (.tup (cs.map Cn.d)), .fr (Cn.at0 w).d, .fr (Cn.at0 (!w)).d]) := by
  have H : FEv (F_joined (n + 2) [.fr (.str (wNd w)), .fr (.tup (cs.map Cn.d)), .fr (Cn.at0 w).d, .fr (Cn.at0 (!w)).d]) (@hq _ _ ⟨fun o os => o = .fr (jn w (Cn.raws w cs)).d ∧ os = [.fr (.str (wNd w)), .fr (.tup (cs.map Cn.d)), .fr (Cn.at0 w).d, .fr (Cn.at0 (!w)).d]⟩) (fun _ _ => False) := by
    have hm := members_ok w cs n hf hs hc
    have hfm : ∀ x ∈ ddA [] (Cn.raws w cs), Fine x := fun x hx => hf x (((ddA_mem _ _).mp hx).elim (fun z => (List.not_mem_nil z).elim) id)
    have hin := in_cn (fine_at (!w)) hfm
    have hml : Cn.at0 (!w) ∈ ddA [] (Cn.raws w cs) ↔ Cn.at0 (!w) ∈ Cn.raws w cs := by rw [ddA_mem]; simp
    have hll : (ddA [] (Cn.raws w cs)).length ≤ 1000 := by
      have h1 := ddA_len [] (Cn.raws w cs)
      have h2 := szs_len (Cn.raws w cs)
      have h3 := raws_sz w cs
      have h6 : ([] : List Cn).length = 0 := rfl
      omega
    have hfl : ∀ x ∈ fl w (ddA [] (Cn.raws w cs)), Fine x := fun x hx => hfm x (fl_mem.mp hx).1
    have hjn : ¬ Cn.at0 (!w) ∈ ddA [] (Cn.raws w cs) → jn w (Cn.raws w cs) = jnL w (fl w (ddA [] (Cn.raws w cs))) := fun h => by unfold jn; rw [if_neg (fun z => h (hml.mpr z))]
    have hjy : Cn.at0 (!w) ∈ ddA [] (Cn.raws w cs) → jn w (Cn.raws w cs) = .at0 (!w) := fun h => by unfold jn; rw [if_pos (hml.mp h)]
    have hlc : ∀ e, (∃ a0 a1 a3 a4, e = [a0, a1, some (.fr (Cn.at0 w).d), a3, a4, none]) → lcL [5] (.n 5) (T_joined_0 (F_normal (n + 1)) (F_joined (n + 1)) (F_members_of (n + 1))) (C_joined_0 (F_normal (n + 1)) (F_joined (n + 1)) (F_members_of (n + 1))) ((ddA [] (Cn.raws w cs)).map Cn.d) [] e = some ((fl w (ddA [] (Cn.raws w cs))).map Cn.d, e) := by
      rintro e ⟨a0, a1, a3, a4, rfl⟩
      refine fl_lc w _ (by omega) fun x hx => ⟨_, rfl, ?_⟩
      have hne := ne_cn (hfm x hx) (fine_at w)
      unfold T_joined_0 C_joined_0
      clear hin hml hll hfl hjn hjy hm hfm hf hc hx
      by_cases h : x = .at0 w
      · subst h
        rw [decide_eq_true rfl] at hne
        walk_at "evd"
      · rw [decide_eq_false h] at hne
        walk_at "evd"
    have hfl1 : (fl w (ddA [] (Cn.raws w cs))).length ≤ 1000 := Nat.le_trans (List.length_filter_le _ _) hll
    generalize ddA [] (Cn.raws w cs) = m at *
    unfold F_joined G_joined
    have hl1 := hlc _ ⟨some (sO (wNd w)), some (.fr (.tup (cs.map Cn.d))), some (.fr (Cn.at0 (!w)).d), some (.fr (.lst (m.map Cn.d))), rfl⟩
    by_cases hfi : Cn.at0 (!w) ∈ m
    · have e1 := hjy hfi
      rw [decide_eq_true hfi] at hin
      clear hlc hl1 hjn hjy hfl hfl1 hll hml hf hc hfm hs hfi
      walk_at "evd"
      exact hqi ⟨by rw [e1], rfl⟩
    · have e1 := hjn hfi
      rw [decide_eq_false hfi] at hin
      clear hlc hjn hjy hll hml hf hc hfm hs hfi
      generalize fl w m = k at *
      match k with
      | [] =>
        have e2 : jnL w [] = .at0 w := rfl
        rw [e2] at e1
        rw [List.map_nil] at hl1
        clear hfl1 hfl e2
        walk_at "evd"
        exact hqi ⟨by rw [e1], rfl⟩
      | [x] =>
        have e2 : jnL w [x] = x := rfl
        rw [e2] at e1
        rw [List.map_singleton] at hl1
        clear hfl1 hfl e2
        walk_at "evd"
        exact hqi ⟨by rw [e1], rfl⟩
      | x :: y :: r =>
        have e2 : jnL w (x :: y :: r) = .nd w (x :: y :: r) := rfl
        rw [e2] at e1
        have hz : 1 + (x.d :: y.d :: r.map Cn.d).length ≤ sizeLine := by
          rw [List.length_cons, List.length_cons, List.length_map, sizeLine_eq]
          rw [List.length_cons, List.length_cons] at hfl1
          omega
        have l1 : ¬ ((r.length : Int) + 1 + 1 = 0) := by omega
        have l2 : ¬ ((r.length : Int) + 1 + 1 = 1) := by omega
        rw [List.map_cons, List.map_cons] at hl1
        have hz' : 1 + (r.length + 1 + 1) ≤ sizeLine := by rw [List.length_cons, List.length_cons, List.length_map] at hz; exact hz
        clear hfl1 hfl e2 hz
        have e3 : (Cn.nd w (x :: y :: r)).d = .tup (.str (wNd w) :: x.d :: y.d :: r.map Cn.d) := by rw [cn_nd_d]; rfl
        walk_at "evd"
        exact hqi ⟨by rw [e1, e3], rfl⟩
  obtain ⟨o, os, h, rfl, rfl⟩ := H.get
  exact h
end
theorem words_ne : PySem.Str.ofString "not" ≠ PySem.Str.ofString "and" ∧ PySem.Str.ofString "not" ≠ PySem.Str.ofString "or" ∧ PySem.Str.ofString "or" ≠ PySem.Str.ofString "and" := by decide +kernel
/-- the part of a not, as it was -/
theorem ntF_cases (f : Cn) : (∃ b, f = .at0 b ∧ ntF f = .at0 (!b)) ∨ (∃ d, f = .nt d ∧ ntF f = d) ∨ ((∀ b, f ≠ .at0 b) ∧ (∀ d, f ≠ .nt d) ∧ ntF f = .nt f) := by
  cases f with
  | at0 b => exact .inl ⟨b, rfl, rfl⟩
  | nt d => exact .inr (.inl ⟨d, rfl, rfl⟩)
  | mat _ _ => exact .inr (.inr ⟨fun _ z => (by cases z), fun _ z => (by cases z), rfl⟩)
  | sam _ _ => exact .inr (.inr ⟨fun _ z => (by cases z), fun _ z => (by cases z), rfl⟩)
  | emp _ => exact .inr (.inr ⟨fun _ z => (by cases z), fun _ z => (by cases z), rfl⟩)
  | nd _ _ => exact .inr (.inr ⟨fun _ z => (by cases z), fun _ z => (by cases z), rfl⟩)
/-- a condition that is its own normal form by its word -/
theorem Cn.nrm_leaf {c : Cn} (h : ¬ c.w ∈ [sAnd, sOr, sNot]) : c.nrm = c := by
  cases c with
  | nt _ => exact absurd (by show sNot ∈ _; decide +kernel) h
  | nd w _ => exact absurd (by show wNd w ∈ _; cases w <;> decide +kernel) h
  | at0 _ => rw [Cn.nrm]
  | mat _ _ => rw [Cn.nrm]
  | sam _ _ => rw [Cn.nrm]
  | emp _ => rw [Cn.nrm]
open Classical in
theorem normal_ok {N R : List Str} (hN : ∀ z ∈ N, LtrZ z) (hR : ∀ z ∈ R, LtrZ z) : ∀ (d : Nat) (c : Cn) (n : Nat), COk N R d c → d ≤ 6 → c.size ≤ 1000 → 3 * d ≤ n → F_normal n [.fr c.d] = some (.ok (.fr c.nrm.d) [.fr c.d])
  | 0, c, n, h, _, _, _ => by have := cok_pos h; omega
  | d + 1, c, n, h, hd, hsz, hn => by
    obtain ⟨n, rfl⟩ : ∃ m, n = m + 3 := ⟨n - 3, by omega⟩
    have ih := normal_ok hN hR d
    have H : FEv (F_normal (n + 3) [.fr c.d]) (@hq _ _ ⟨fun o os => o = .fr c.nrm.d ∧ os = [.fr c.d]⟩) (fun _ _ => False) := by
      have hix := gIx0_cn c
      obtain ⟨w1, w2, w3⟩ := words_ne
      unfold F_normal G_normal
      by_cases hlf : c.w ∈ [sAnd, sOr, sNot]
      · cases c with
        | at0 b => exact absurd hlf (by show ¬ wAt b ∈ _; cases b <;> decide +kernel)
        | mat _ _ => exact absurd hlf (by show ¬ sMat ∈ _; decide +kernel)
        | sam _ _ => exact absurd hlf (by show ¬ sSam ∈ _; decide +kernel)
        | emp _ => exact absurd hlf (by show ¬ sEmp ∈ _; decide +kernel)
        | nd w cs =>
          cases h with
          | nd _ _ _ hcs =>
            have hcw : (Cn.nd w cs).w = wNd w := rfl
            have hsl := sl1_cn (.nd w cs)
            have htl : (Cn.nd w cs).tl = cs.map Cn.d := Cn.ds_map cs
            rw [htl] at hsl
            rw [hcw] at hix
            rw [Cn.size] at hsz
            have hfr : ∀ x ∈ Cn.raws w cs, Fine x := fun x hx => cok_fine hN hR (raws_cok w cs d hcs x hx) (by omega)
            have hj := joined_ok w cs n hfr (by omega) fun c hc => ih c n (hcs c hc) (by omega) (by
              have : c.size ≤ Cn.sizes cs := by
                have := szs_sub (List.singleton_sublist.mpr hc)
                rw [Cn.sizes, Cn.sizes] at this
                omega
              omega) (by omega)
            have hnr : (Cn.nd w cs).nrm = jn w (Cn.raws w cs) := by rw [Cn.nrm]
            rw [← hnr] at hj
            have e1 := at0_t
            have e2 := at0_f
            clear ih hcs hfr hsz hnr htl hcw hlf
            cases w with
            | true =>
              rw [show (!true) = false from rfl, e1, e2, wNd_t] at hj
              rw [wNd_t] at hix
              clear e1 e2 w1 w2 w3
              walk_at "evd"
              exact hqi ⟨rfl, rfl⟩
            | false =>
              rw [show (!false) = true from rfl, e1, e2, wNd_f] at hj
              rw [wNd_f] at hix
              clear e1 e2 w1 w2
              walk_at "evd"
              exact hqi ⟨rfl, rfl⟩
        | nt x =>
          cases h with
          | nt _ _ hx =>
            have hcw : (Cn.nt x).w = PySem.Str.ofString "not" := rfl
            rw [hcw] at hix
            rw [Cn.size] at hsz
            have hin := ih x (n + 2) hx (by omega) (by omega) (by omega)
            have hx1 : gIx [(Cn.nt x).d, .int 1] = some (.fr x.d) := by rw [Cn.d, gIx_t, atI_c1]; rfl
            have hnr : (Cn.nt x).nrm = ntF x.nrm := by rw [Cn.nrm]
            have hf : Fine x.nrm := cok_fine hN hR (nrm_cok x d hx) (by omega)
            have et := eq_cn hf (fine_at true)
            have ef := eq_cn hf (fine_at false)
            have f0 := gIx0_cn x.nrm
            rw [at0_t] at et
            rw [at0_f] at ef
            clear ih hx hsz hlf hcw hf
            rcases ntF_cases x.nrm with ⟨b, h1, h2⟩ | ⟨y, h1, h2⟩ | ⟨h1, h2, h3⟩
            · rw [h2] at hnr
              rw [h1] at et ef hin
              have e1 := at0_t
              have e2 := at0_f
              clear h2
              cases b with
              | true =>
                rw [decide_eq_true rfl] at et
                rw [show (!true) = false from rfl] at hnr
                clear ef e1 h1 f0
                walk_at "evd"
                exact hqi ⟨by rw [hnr, e2], rfl⟩
              | false =>
                rw [decide_eq_false (fun z => by cases z)] at et
                rw [decide_eq_true rfl] at ef
                rw [show (!false) = true from rfl] at hnr
                clear e2 h1 f0
                walk_at "evd"
                exact hqi ⟨by rw [hnr, e1], rfl⟩
            · rw [h2] at hnr
              rw [h1] at et ef f0 hin
              rw [decide_eq_false (fun z => by cases z)] at et ef
              have fy : gIx [(Cn.nt y).d, .int 1] = some (.fr y.d) := by rw [Cn.d, gIx_t, atI_c1]; rfl
              have fw : (Cn.nt y).w = PySem.Str.ofString "not" := rfl
              rw [fw] at f0
              clear h1 h2
              walk_at "evd"
              exact hqi ⟨by rw [hnr], rfl⟩
            · rw [h3] at hnr
              rw [decide_eq_false (h1 _)] at et ef
              have fw : ¬ x.nrm.w = PySem.Str.ofString "not" := fun z => by
                obtain ⟨d, z⟩ := Cn.w_nt z
                exact h2 d z
              have e3 : (Cn.nt x.nrm).d = .tup [.str (PySem.Str.ofString "not"), x.nrm.d] := by rw [Cn.d]
              clear h1 h2 h3
              walk_at "evd"
              exact hqi ⟨by rw [hnr, e3], rfl⟩
      · have hnr := Cn.nrm_leaf hlf
        have n1 : ¬ c.w = PySem.Str.ofString "and" := fun z => hlf (by rw [z]; decide +kernel)
        have n2 : ¬ c.w = PySem.Str.ofString "or" := fun z => hlf (by rw [z]; decide +kernel)
        have n3 : ¬ c.w = PySem.Str.ofString "not" := fun z => hlf (by rw [z]; decide +kernel)
        clear hlf ih h w1 w2 w3 hsz
        walk_at "evd"
        exact hqi ⟨by rw [hnr], rfl⟩
    obtain ⟨o, os, h, rfl, rfl⟩ := H.get
    exact h
/-! normal forms, as the law makes them -/
theorem cutD_mid {α : Type} {xs : List α} {j k : Nat} (h : j ≤ k) (hk : k ≤ xs.length) : cutD xs (some (j : Int)) (some (k : Int)) = (xs.take k).drop j := by
  unfold cutD
  rw [HT.sIx_nat, HT.sIx_nat, Nat.min_eq_left hk, Nat.min_eq_left (by omega), List.drop_take]
section
open Classical
/-- what collecting one condition adds -/
structure Coll (w : Bool) (c : Cn) (F : Fn) (r : List Cn) : Prop where
  sim : Sim w r (pc w c.nrm)
  fine : ∀ x ∈ r, Fine x
  len : r.length ≤ c.size
  run : ∀ acc : List Cn, (∀ x ∈ acc, Fine x) → acc.length + r.length ≤ 1000 → F [.fr (.str (wNd w)), .fr c.d, .lst (acc.map Cn.d)] = some (.ok (.fr .non) [.fr (.str (wNd w)), .fr c.d, .lst ((ddA acc r).map Cn.d)])
theorem col_loop1 {S1 S2 : Fn} {a0 a1 a4 a5 : Option O} (xs : List Cn) (hx : ∀ x ∈ xs, Fine x) : ∀ (acc : List Cn) (q : Option O), (∀ x ∈ acc, Fine x) → acc.length + xs.length ≤ 1000 →
    Ev (forL (.n 3) (B__law_collect_1 S1 S2) (xs.map Cn.d) [a0, a1, some (.lst (acc.map Cn.d)), q, a4, a5]) (fun fl e => fl = .next ∧ ∃ q, e = [a0, a1, some (.lst ((ddA acc xs).map Cn.d)), q, a4, a5]) (fun _ _ => False) := by
  intro acc q ha hl
  refine Ev_forP (f := Cn.d) (fun done e => @Dn.hb _ ⟨fun e => ∃ q, e = [a0, a1, some (.lst ((ddA acc done).map Cn.d)), q, a4, a5]⟩ e) _ xs [] _ ⟨q, by rw [ddA]⟩ ?_ ?_
  · rintro pre x post e he ⟨q, rfl⟩
    refine ⟨_, rfl, ?_⟩
    have hxm : x ∈ xs := by simpa using mem_mid he
    have he2 : xs = pre ++ x :: post := by simpa using he
    have hfin : ∀ y ∈ ddA acc pre, Fine y := fun y hy => by
      rcases (ddA_mem _ _).mp hy with hy | hy
      · exact ha y hy
      · exact hx y (by rw [he2]; exact List.mem_append_left _ hy)
    have hn := notin_cn (hx x hxm) hfin
    have hl2 : (ddA acc pre).length < sizeLine := szl1_of' (by
      have h1 := ddA_len acc pre
      have h2 := congrArg List.length he2
      rw [List.length_append, List.length_cons] at h2
      omega)
    have nx : ddA acc (pre ++ [x]) = if x ∈ ddA acc pre then ddA acc pre else ddA acc pre ++ [x] := by
      rw [ddA_app, ddA, ddA, ddA]
    unfold B__law_collect_1
    clear he he2 hfin hxm
    by_cases hm : x ∈ ddA acc pre
    · rw [if_pos hm] at nx
      rw [decide_eq_true hm] at hn
      clear hm
      walk_at "evd"
      exact hbi ⟨_, by rw [nx]⟩
    · rw [if_neg hm] at nx
      rw [decide_eq_false hm] at hn
      clear hm
      walk_at "evd"
      exact hbi ⟨_, by rw [nx, List.map_append]; rfl⟩
  · rintro e ⟨q, rfl⟩
    exact ⟨rfl, q, rfl⟩
theorem coll_other {w : Bool} {c : Cn} {n : Nat} (hw : c.w ≠ wNd w) (hsz : c.size ≤ 1000) (hf : ∀ x ∈ pc w c.nrm, Fine x) (hn : F__law_normal n [.fr c.d] = some (.ok (.fr c.nrm.d) [.fr c.d])) : Coll w c (F__law_collect (n + 1)) (pc w c.nrm) := by
  have hlen : (pc w c.nrm).length ≤ c.size := by
    have h1 := szs_len (pc w c.nrm)
    have h2 := @pc_sz w c.nrm
    have h3 := nrm_sz c
    omega
  refine ⟨Sim.refl _ _, hf, hlen, fun acc ha hl => ?_⟩
  have H : FEv (F__law_collect (n + 1) [.fr (.str (wNd w)), .fr c.d, .lst (acc.map Cn.d)]) (@hq _ _ ⟨fun o os => o = .fr .non ∧ os = [.fr (.str (wNd w)), .fr c.d, .lst ((ddA acc (pc w c.nrm)).map Cn.d)]⟩) (fun _ _ => False) := by
    have h0 := gIx0_cn c
    have hx0 := gIx0_cn c.nrm
    have hx1 := sl1_cn c.nrm
    have lp := fun a0 a1 a4 a5 q => (col_loop1 (S1 := F__law_normal n) (S2 := F__law_collect n) (a0 := a0) (a1 := a1) (a4 := a4) (a5 := a5) (pc w c.nrm) hf acc q ha hl)
    unfold F__law_collect G__law_collect
    by_cases hw2 : c.nrm.w = wNd w
    · obtain ⟨ms, hms⟩ := Cn.w_nd hw2
      have hpc : pc w c.nrm = ms := by rw [hms]; unfold pc; simp
      have htl : c.nrm.tl = ms.map Cn.d := by rw [hms]; exact Cn.ds_map ms
      rw [htl] at hx1
      clear hms htl
      subst hpc
      obtain ⟨fl, e3, g1, rfl, q, rfl⟩ := (lp (some (sO (wNd w))) (some (.fr c.d)) (some (.fr c.nrm.d)) (some (.fr (.lst ((pc w c.nrm).map Cn.d)))) none).get
      clear lp hf hlen hl hsz ha
      walk_at "evd"
      exact hqi ⟨rfl, rfl⟩
    · have hpc : pc w c.nrm = [c.nrm] := pc_one fun ms z => hw2 (by rw [z]; rfl)
      rw [hpc] at lp
      obtain ⟨fl, e3, g1, rfl, q, rfl⟩ := (lp (some (sO (wNd w))) (some (.fr c.d)) (some (.fr c.nrm.d)) (some (.fr (.lst [c.nrm.d]))) none).get
      rw [List.map_singleton] at g1
      clear lp hf hlen hl hsz ha
      walk_at "evd"
      exact hqi ⟨rfl, by rw [hpc]⟩
  obtain ⟨o, os, h, rfl, rfl⟩ := H.get
  exact h
/-- collecting the parts of one of the same word -/
theorem coll_parts {w : Bool} {n : Nat} : ∀ (cs : List Cn), (∀ c ∈ cs, ∃ r, Coll w c (F__law_collect n) r) → ∃ r, Sim w r (Cn.raws w cs) ∧ (∀ x ∈ r, Fine x) ∧ r.length ≤ Cn.sizes cs ∧ ∀ (a0 a1 a4 a5 : Option O) (acc : List Cn) (q : Option O), a0 = some (.fr (.str (wNd w))) → (∀ x ∈ acc, Fine x) → acc.length + r.length ≤ 1000 →
      Ev (forL (.n 3) (B__law_collect_0 (F__law_normal n) (F__law_collect n)) (cs.map Cn.d) [a0, a1, some (.lst (acc.map Cn.d)), q, a4, a5]) (fun fl e => fl = .next ∧ ∃ q, e = [a0, a1, some (.lst ((ddA acc r).map Cn.d)), q, a4, a5]) (fun _ _ => False)
  | [], _ => ⟨[], by rw [Cn.raws]; exact Sim.refl _ _, fun x h => (List.not_mem_nil h).elim, Nat.zero_le _, fun a0 a1 a4 a5 acc q h0 ha hl => by
      rw [List.map_nil, ddA]
      show Fl.next = Fl.next ∧ ∃ q', [a0, a1, some (.lst (acc.map Cn.d)), q, a4, a5] = [a0, a1, some (.lst (acc.map Cn.d)), q', a4, a5]
      exact ⟨rfl, q, rfl⟩⟩
  | c :: cs, h => by
    obtain ⟨r1, k⟩ := h c List.mem_cons_self
    obtain ⟨r2, k1, k2, k3, k4⟩ := coll_parts cs fun x hx => h x (List.mem_cons_of_mem _ hx)
    refine ⟨r1 ++ r2, by rw [Cn.raws]; exact k.sim.app k1, fun x hx => (List.mem_append.mp hx).elim (k.fine x) (k2 x), ?_, ?_⟩
    · have := k.len
      rw [List.length_append, Cn.sizes]; omega
    · intro a0 a1 a4 a5 acc q h0 ha hl
      subst h0
      rw [List.length_append] at hl
      have hrun := k.run acc ha (by omega)
      have hfa : ∀ x ∈ ddA acc r1, Fine x := fun x hx => ((ddA_mem _ _).mp hx).elim (ha x) (k.fine x)
      have hla : (ddA acc r1).length + r2.length ≤ 1000 := by have := ddA_len acc r1; omega
      obtain ⟨fl, e3, g1, rfl, q', rfl⟩ := (k4 _ a1 a4 a5 (ddA acc r1) (some (.fr c.d)) rfl hfa hla).get
      rw [← ddA_app] at g1
      have hb : B__law_collect_0 (F__law_normal n) (F__law_collect n) [some (.fr (.str (wNd w))), a1, some (.lst (acc.map Cn.d)), some (.fr c.d), a4, a5] = some (.ok .next [some (.fr (.str (wNd w))), a1, some (.lst ((ddA acc r1).map Cn.d)), some (.fr c.d), a4, a5]) := by
        unfold B__law_collect_0
        clear g1 h k k4 hla hl
        walk_at "evd"
      rw [List.map_cons]
      unfold forL
      rw [show (Tg.n 3).go c.d [some (.fr (.str (wNd w))), a1, some (.lst (acc.map Cn.d)), q, a4, a5] = some [some (.fr (.str (wNd w))), a1, some (.lst (acc.map Cn.d)), some (.fr c.d), a4, a5] from rfl]
      dsimp only
      rw [hb]
      dsimp only
      rw [g1]
      show Fl.next = Fl.next ∧ ∃ q, [some (.fr (.str (wNd w))), a1, some (.lst ((ddA acc (r1 ++ r2)).map Cn.d)), q', a4, a5] = [some (.fr (.str (wNd w))), a1, some (.lst ((ddA acc (r1 ++ r2)).map Cn.d)), q, a4, a5]
      exact ⟨rfl, q', rfl⟩
theorem coll_own {w : Bool} {n : Nat} (cs : List Cn) (hcs : ∀ c ∈ cs, ∃ r, Coll w c (F__law_collect n) r) (hn : ∀ x ∈ Cn.raws w cs, ∀ ds, x ≠ .nd w ds) : ∃ r, Coll w (.nd w cs) (F__law_collect (n + 1)) r ∧ Sim w r (Cn.raws w cs) := by
  obtain ⟨r, k1, k2, k3, k4⟩ := coll_parts cs hcs
  refine ⟨r, ⟨?_, k2, by rw [Cn.size]; omega, fun acc ha hl => ?_⟩, k1⟩
  · rw [Cn.nrm]; exact sim_nest k1 hn
  · have H : FEv (F__law_collect (n + 1) [.fr (.str (wNd w)), .fr (Cn.nd w cs).d, .lst (acc.map Cn.d)]) (@hq _ _ ⟨fun o os => o = .fr .non ∧ os = [.fr (.str (wNd w)), .fr (Cn.nd w cs).d, .lst ((ddA acc r).map Cn.d)]⟩) (fun _ _ => False) := by
      have h0 := gIx0_cn (.nd w cs)
      rw [show (Cn.nd w cs).w = wNd w from rfl] at h0
      have h1 := sl1_cn (.nd w cs)
      rw [show (Cn.nd w cs).tl = cs.map Cn.d from Cn.ds_map cs] at h1
      obtain ⟨fl, e3, g1, rfl, q', rfl⟩ := (k4 _ (some (.fr (Cn.nd w cs).d)) none none acc none rfl ha hl).get
      unfold F__law_collect G__law_collect
      clear k1 k2 k3 k4 hcs hn
      walk_at "evd"
      exact hqi ⟨rfl, rfl⟩
    obtain ⟨o, os, h, rfl, rfl⟩ := H.get
    exact h
theorem lnd_ok {w : Bool} {n : Nat} (cs : List Cn) (hsz : Cn.sizes cs ≤ 900) (hcs : ∀ c ∈ cs, ∃ r, Coll w c (F__law_collect n) r) (hn : ∀ x ∈ Cn.raws w cs, ∀ ds, x ≠ .nd w ds) : F__law_normal (n + 2) [.fr (Cn.nd w cs).d] = some (.ok (.fr (Cn.nd w cs).nrm.d) [.fr (Cn.nd w cs).d]) := by
  have H : FEv (F__law_normal (n + 2) [.fr (Cn.nd w cs).d]) (@hq _ _ ⟨fun o os => o = .fr (Cn.nd w cs).nrm.d ∧ os = [.fr (Cn.nd w cs).d]⟩) (fun _ _ => False) := by
    obtain ⟨r, k, ks⟩ := coll_own cs hcs hn
    have hrun := k.run [] (fun x h => (List.not_mem_nil h).elim) (by have := k.len; rw [Cn.size] at this; rw [List.length_nil]; omega)
    rw [List.map_nil] at hrun
    have hjn : (Cn.nd w cs).nrm = jn w r := by rw [Cn.nrm]; exact ks.jn.symm
    have hfm : ∀ x ∈ ddA [] r, Fine x := fun x hx => k.fine x (((ddA_mem _ _).mp hx).elim (fun z => (List.not_mem_nil z).elim) id)
    have hml : Cn.at0 (!w) ∈ fl w (ddA [] r) ↔ Cn.at0 (!w) ∈ r := by
      rw [fl_mem, ddA_mem]
      exact ⟨fun z => z.1.elim (fun z => (List.not_mem_nil z).elim) id, fun z => ⟨.inr z, not_ne w⟩⟩
    have hll : (ddA [] r).length ≤ 1000 := by
      have h1 := ddA_len [] r
      have h2 := k.len
      rw [Cn.size] at h2
      have h6 : ([] : List Cn).length = 0 := rfl
      omega
    have hfl : ∀ x ∈ fl w (ddA [] r), Fine x := fun x hx => hfm x (fl_mem.mp hx).1
    have hin := in_cn (fine_at (!w)) hfl
    have hjN : ¬ Cn.at0 (!w) ∈ fl w (ddA [] r) → jn w r = jnL w (fl w (ddA [] r)) := fun h => by unfold jn; rw [if_neg (fun z => h (hml.mpr z))]
    have hjY : Cn.at0 (!w) ∈ fl w (ddA [] r) → jn w r = .at0 (!w) := fun h => by unfold jn; rw [if_pos (hml.mp h)]
    have hlc : ∀ e, (∃ a0 a1 a2 a4 a5 a6, e = [a0, a1, a2, some (.fr (Cn.at0 w).d), a4, a5, a6, none]) → lcL [7] (.n 7) (T__law_normal_0 (F__law_normal (n + 1)) (F__law_collect (n + 1))) (C__law_normal_0 (F__law_normal (n + 1)) (F__law_collect (n + 1))) ((ddA [] r).map Cn.d) [] e = some ((fl w (ddA [] r)).map Cn.d, e) := by
      rintro e ⟨a0, a1, a2, a4, a5, a6, rfl⟩
      refine fl_lc w _ (by omega) fun x hx => ⟨_, rfl, ?_⟩
      have hne := ne_cn (hfm x hx) (fine_at w)
      unfold T__law_normal_0 C__law_normal_0
      clear hin hml hll hfl hjN hjY hfm hcs hx hrun hjn k ks hn
      by_cases h : x = .at0 w
      · subst h
        rw [decide_eq_true rfl] at hne
        walk_at "evd"
      · rw [decide_eq_false h] at hne
        walk_at "evd"
    have hfl1 : (fl w (ddA [] r)).length ≤ 1000 := Nat.le_trans (List.length_filter_le _ _) hll
    have hemp := gEq_pl (x := .lst ((fl w (ddA [] r)).map Cn.d)) (y := .lst []) (by rw [D.pl]; exact D.pls_of fun _ hx => let ⟨y, hy, e⟩ := List.mem_map.mp hx; e ▸ (hfl y hy).pl) rfl (fine_l hfl) (fine_l (ys := []) fun x h => (List.not_mem_nil h).elim)
    have hix := gIx0_cn (.nd w cs)
    rw [show (Cn.nd w cs).w = wNd w from rfl] at hix
    obtain ⟨w1, w2, w3⟩ := words_ne
    have v1 := w1.symm
    have v2 := w2.symm
    have v3 := w3.symm
    have hl1 : ∀ a0 a1 a2 a4 a5 a6, lcL [7] (.n 7) (T__law_normal_0 (F__law_normal (n + 1)) (F__law_collect (n + 1))) (C__law_normal_0 (F__law_normal (n + 1)) (F__law_collect (n + 1))) ((ddA [] r).map Cn.d) [] [a0, a1, a2, some (.fr (Cn.at0 w).d), a4, a5, a6, none] = some ((fl w (ddA [] r)).map Cn.d, [a0, a1, a2, some (.fr (Cn.at0 w).d), a4, a5, a6, none]) := fun a0 a1 a2 a4 a5 a6 => hlc _ ⟨a0, a1, a2, a4, a5, a6, rfl⟩
    have e1 := at0_t
    have e2 := at0_f
    clear hlc hml hfm hll
    generalize ddA [] r = m at *
    generalize fl w m = kk at *
    unfold F__law_normal G__law_normal
    by_cases hfi : Cn.at0 (!w) ∈ kk
    · have j1 := hjn.trans (hjY hfi)
      rw [decide_eq_true hfi] at hin
      clear hjN hjY hfl hfl1 hcs hn k ks hjn hemp hfi
      cases w with
      | true =>
        rw [show (!true) = false from rfl, e2] at hin
        rw [show (!true) = false from rfl] at j1
        rw [wNd_t] at hix hrun
        rw [e1] at hl1
        clear e1 w1 w2 w3 v2
        walk_at "evd"
        exact hqi ⟨by rw [j1, e2], rfl⟩
      | false =>
        rw [show (!false) = true from rfl, e1] at hin
        rw [show (!false) = true from rfl] at j1
        rw [wNd_f] at hix hrun
        rw [e2] at hl1
        clear e2 v1 v3
        walk_at "evd"
        exact hqi ⟨by rw [j1, e1], rfl⟩
    · have j1 := hjn.trans (hjN hfi)
      rw [decide_eq_false hfi] at hin
      clear hjN hjY hcs hn k ks hjn hfi hfl
      match kk with
      | [] =>
        rw [show jnL w [] = .at0 w from rfl] at j1
        rw [decide_eq_true (by rfl), List.map_nil] at hemp
        rw [List.map_nil] at hin
        clear hfl1
        cases w with
        | true =>
          rw [show (!true) = false from rfl, e2] at hin
          rw [wNd_t] at hix hrun
          rw [e1, List.map_nil] at hl1
          clear e2 w1 w2 w3 v2
          walk_at "evd"
          exact hqi ⟨by rw [j1, e1], rfl⟩
        | false =>
          rw [show (!false) = true from rfl, e1] at hin
          rw [wNd_f] at hix hrun
          rw [e2, List.map_nil] at hl1
          clear e1 v1 v3
          walk_at "evd"
          exact hqi ⟨by rw [j1, e2], rfl⟩
      | [x] =>
        rw [show jnL w [x] = x from rfl] at j1
        rw [decide_eq_false (by simp), List.map_singleton] at hemp
        rw [List.map_singleton] at hin
        clear hfl1
        cases w with
        | true =>
          rw [show (!true) = false from rfl, e2] at hin
          rw [wNd_t] at hix hrun
          rw [e1, List.map_singleton] at hl1
          clear e2 w1 w2 w3 v2 e1
          walk_at "evd"
          exact hqi ⟨by rw [j1], rfl⟩
        | false =>
          rw [show (!false) = true from rfl, e1] at hin
          rw [wNd_f] at hix hrun
          rw [e2, List.map_singleton] at hl1
          clear e1 e2 v1 v3
          walk_at "evd"
          exact hqi ⟨by rw [j1], rfl⟩
      | x :: y :: t =>
        rw [show jnL w (x :: y :: t) = .nd w (x :: y :: t) from rfl] at j1
        rw [decide_eq_false (by simp), List.map_cons, List.map_cons] at hemp
        rw [List.map_cons, List.map_cons] at hin
        have hz : 1 + (t.length + 1 + 1) ≤ sizeLine := by
          rw [sizeLine_eq]
          rw [List.length_cons, List.length_cons] at hfl1
          omega
        have l2 : ¬ ((t.length : Int) + 1 + 1 = 1) := by omega
        have e3 : (Cn.nd w (x :: y :: t)).d = .tup (.str (wNd w) :: x.d :: y.d :: t.map Cn.d) := by rw [cn_nd_d]; rfl
        clear hfl1
        cases w with
        | true =>
          rw [show (!true) = false from rfl, e2] at hin
          rw [wNd_t] at hix hrun e3
          rw [e1, List.map_cons, List.map_cons] at hl1
          clear e2 w1 w2 w3 v2 e1
          walk_at "evd"
          exact hqi ⟨by rw [j1, e3], rfl⟩
        | false =>
          rw [show (!false) = true from rfl, e1] at hin
          rw [wNd_f] at hix hrun e3
          rw [e2, List.map_cons, List.map_cons] at hl1
          clear e1 e2 v1 v3
          walk_at "evd"
          exact hqi ⟨by rw [j1, e3], rfl⟩
  obtain ⟨o, os, h, rfl, rfl⟩ := H.get
  exact h
end
section
open Classical
theorem lnormal_ok {N R : List Str} (hN : ∀ z ∈ N, LtrZ z) (hR : ∀ z ∈ R, LtrZ z) : ∀ (d : Nat), d ≤ 6 → (∀ (c : Cn) (n : Nat), COk N R d c → c.size ≤ 900 → 3 * d ≤ n → F__law_normal n [.fr c.d] = some (.ok (.fr c.nrm.d) [.fr c.d])) ∧ (∀ (c : Cn) (w : Bool) (n : Nat), COk N R d c → c.size ≤ 900 → 3 * d + 1 ≤ n → ∃ r, Coll w c (F__law_collect n) r)
  | 0, _ => ⟨fun c n h _ _ => by have := cok_pos h; omega, fun c w n h _ _ => by have := cok_pos h; omega⟩
  | d + 1, hd => by
    obtain ⟨ihP, ihQ⟩ := lnormal_ok hN hR d (by omega)
    have mems : ∀ (w : Bool) (cs : List Cn), Cn.sizes cs ≤ 900 → ∀ c ∈ cs, c.size ≤ 900 := fun w cs h c hc => by
      have := szs_sub (List.singleton_sublist.mpr hc)
      rw [Cn.sizes, Cn.sizes] at this
      omega
    have P : ∀ (c : Cn) (n : Nat), COk N R (d + 1) c → c.size ≤ 900 → 3 * (d + 1) ≤ n → F__law_normal n [.fr c.d] = some (.ok (.fr c.nrm.d) [.fr c.d]) := by
      intro c n h hsz hn
      obtain ⟨n, rfl⟩ : ∃ m, n = m + 3 := ⟨n - 3, by omega⟩
      by_cases hlf : c.w ∈ [sAnd, sOr, sNot]
      · cases c with
        | at0 b => exact absurd hlf (by show ¬ wAt b ∈ _; cases b <;> decide +kernel)
        | mat _ _ => exact absurd hlf (by show ¬ sMat ∈ _; decide +kernel)
        | sam _ _ => exact absurd hlf (by show ¬ sSam ∈ _; decide +kernel)
        | emp _ => exact absurd hlf (by show ¬ sEmp ∈ _; decide +kernel)
        | nd w cs =>
          cases h with
          | nd _ _ _ hcs =>
            rw [Cn.size] at hsz
            exact lnd_ok cs (by omega) (fun c hc => ihQ c w (n + 1) (hcs c hc) (mems w cs (by omega) c hc) (by omega)) fun x hx => (raws_nf w cs x hx).2
        | nt x =>
          cases h with
          | nt _ _ hx =>
            have H : FEv (F__law_normal (n + 3) [.fr (Cn.nt x).d]) (@hq _ _ ⟨fun o os => o = .fr (Cn.nt x).nrm.d ∧ os = [.fr (Cn.nt x).d]⟩) (fun _ _ => False) := by
              have hix := gIx0_cn (.nt x)
              have hcw : (Cn.nt x).w = PySem.Str.ofString "not" := rfl
              rw [hcw] at hix
              rw [Cn.size] at hsz
              have hin := ihP x (n + 2) hx (by omega) (by omega)
              have hx1 : gIx [(Cn.nt x).d, .int 1] = some (.fr x.d) := by rw [Cn.d, gIx_t, atI_c1]; rfl
              have hnr : (Cn.nt x).nrm = ntF x.nrm := by rw [Cn.nrm]
              have hf : Fine x.nrm := cok_fine hN hR (nrm_cok x d hx) (by omega)
              have et := eq_cn hf (fine_at true)
              have ef := eq_cn hf (fine_at false)
              have f0 := gIx0_cn x.nrm
              have f1 := f0
              rw [at0_t] at et
              rw [at0_f] at ef
              unfold F__law_normal G__law_normal
              clear ihP ihQ hx hsz hlf hcw hf mems
              rcases ntF_cases x.nrm with ⟨b, h1, h2⟩ | ⟨y, h1, h2⟩ | ⟨h1, h2, h3⟩
              · rw [h2] at hnr
                rw [h1] at et ef hin f0
                have e1 := at0_t
                have e2 := at0_f
                have fw : ¬ (Cn.at0 b).w = PySem.Str.ofString "not" := by show ¬ wAt b = _; cases b <;> decide +kernel
                clear h2 f1 h1
                cases b with
                | true =>
                  rw [decide_eq_true rfl] at et
                  rw [show (!true) = false from rfl] at hnr
                  clear ef e1
                  walk_at "evd"
                  exact hqi ⟨by rw [hnr, e2], rfl⟩
                | false =>
                  rw [decide_eq_false (fun z => by cases z)] at et
                  rw [decide_eq_true rfl] at ef
                  rw [show (!false) = true from rfl] at hnr
                  clear e2
                  walk_at "evd"
                  exact hqi ⟨by rw [hnr, e1], rfl⟩
              · rw [h2] at hnr
                rw [h1] at et ef f0 hin
                have fy : gIx [(Cn.nt y).d, .int 1] = some (.fr y.d) := by rw [Cn.d, gIx_t, atI_c1]; rfl
                have fw : (Cn.nt y).w = PySem.Str.ofString "not" := rfl
                rw [fw] at f0
                clear h1 h2 et ef f1
                walk_at "evd"
                exact hqi ⟨by rw [hnr], rfl⟩
              · rw [h3] at hnr
                rw [decide_eq_false (h1 _)] at et ef
                have fw : ¬ x.nrm.w = PySem.Str.ofString "not" := fun z => by
                  obtain ⟨d, z⟩ := Cn.w_nt z
                  exact h2 d z
                have e3 : (Cn.nt x.nrm).d = .tup [.str (PySem.Str.ofString "not"), x.nrm.d] := by rw [Cn.d]
                clear h1 h2 h3
                walk_at "evd"
                exact hqi ⟨by rw [hnr, e3], rfl⟩
            obtain ⟨o, os, h, rfl, rfl⟩ := H.get
            exact h
      · have hnr := Cn.nrm_leaf hlf
        have hix := gIx0_cn c
        have n1 : ¬ c.w = PySem.Str.ofString "and" := fun z => hlf (by rw [z]; decide +kernel)
        have n2 : ¬ c.w = PySem.Str.ofString "or" := fun z => hlf (by rw [z]; decide +kernel)
        have n3 : ¬ c.w = PySem.Str.ofString "not" := fun z => hlf (by rw [z]; decide +kernel)
        unfold F__law_normal G__law_normal
        clear hlf ihP ihQ h hsz mems
        walk_at "evd"
    refine ⟨P, fun c w n h hsz hn => ?_⟩
    obtain ⟨n, rfl⟩ : ∃ m, n = m + 1 := ⟨n - 1, by omega⟩
    by_cases hw : c.w = wNd w
    · obtain ⟨cs, rfl⟩ := Cn.w_nd hw
      cases h with
      | nd _ _ _ hcs =>
        rw [Cn.size] at hsz
        obtain ⟨r, k, _⟩ := coll_own (w := w) (n := n) cs (fun c hc => ihQ c w n (hcs c hc) (mems w cs (by omega) c hc) (by omega)) fun x hx => (raws_nf w cs x hx).2
        exact ⟨r, k⟩
    · exact ⟨_, coll_other hw (by omega) (fun x hx => cok_fine hN hR (pc_cok (nrm_cok c _ h) x hx) (by omega)) (P c n h hsz (by omega))⟩
end
open Classical in
theorem isnormal_ok {N R : List Str} (hN : ∀ z ∈ N, LtrZ z) (hR : ∀ z ∈ R, LtrZ z) : ∀ (d : Nat) (c : Cn) (n : Nat), COk N R d c → NF c → d ≤ 6 → c.size ≤ 900 → d ≤ n → F__law_is_normal n [.fr c.d] = some (.ok (bO true) [.fr c.d])
  | 0, c, n, h, _, _, _, _ => by have := cok_pos h; omega
  | d + 1, c, n, h, hnf, hd, hsz, hn => by
    obtain ⟨n, rfl⟩ : ∃ m, n = m + 1 := ⟨n - 1, by omega⟩
    have ih := isnormal_ok hN hR d
    have H : FEv (F__law_is_normal (n + 1) [.fr c.d]) (@hq _ _ ⟨fun o os => o = bO true ∧ os = [.fr c.d]⟩) (fun _ _ => False) := by
      have hix := gIx0_cn c
      obtain ⟨w1, w2, w3⟩ := words_ne
      unfold F__law_is_normal G__law_is_normal
      by_cases hlf : c.w ∈ [sAnd, sOr, sNot]
      · cases c with
        | at0 b => exact absurd hlf (by show ¬ wAt b ∈ _; cases b <;> decide +kernel)
        | mat _ _ => exact absurd hlf (by show ¬ sMat ∈ _; decide +kernel)
        | sam _ _ => exact absurd hlf (by show ¬ sSam ∈ _; decide +kernel)
        | emp _ => exact absurd hlf (by show ¬ sEmp ∈ _; decide +kernel)
        | nt x =>
          cases h with
          | nt _ _ hx =>
            cases hnf with
            | nt _ q1 q2 q3 =>
              rw [Cn.size] at hsz
              have hi := ih x n hx q1 (by omega) (by omega) (by omega)
              have hcw : (Cn.nt x).w = PySem.Str.ofString "not" := rfl
              rw [hcw] at hix
              have hx1 : gIx [(Cn.nt x).d, .int 1] = some (.fr x.d) := by rw [Cn.d, gIx_t, atI_c1]; rfl
              have hx0 := gIx0_cn x
              have hno : ¬ x.w ∈ [sNot, sAlw, sNev] := fun z => by
                rcases List.mem_cons.mp z with z | z
                · obtain ⟨y, rfl⟩ := Cn.w_nt z; exact q2 y rfl
                · rcases List.mem_cons.mp z with z | z
                  · exact q3 true (Cn.w_at (w := true) z)
                  · exact q3 false (Cn.w_at (w := false) (List.mem_singleton.mp z))
              have hin : gNotIn [.str x.w, .lst [.str (PySem.Str.ofString "not"), .str (PySem.Str.ofString "always"), .str (PySem.Str.ofString "never")]] = some (bO true) := by
                have s1 := str_in (z := x.w) (zs := [sNot, sAlw, sNev]) x.w_ok (by decide +kernel)
                rw [decide_eq_false hno] at s1
                have e1 := gIn_l (x := .str x.w) (ds := [.str sNot, .str sAlw, .str sNev]) (shp_z x.w_ok) (by decide +kernel)
                rw [show gIn [.str x.w, .lst [.str sNot, .str sAlw, .str sNev]] = some (bO false) from s1] at e1
                rw [gNotIn_l (shp_z x.w_ok) (by decide +kernel)]
                injection e1 with e1
                injection e1 with e1
                injection e1 with e1
                rw [← e1]; rfl
              clear ih hx q1 q2 q3 hsz hlf hcw hno w2 w3
              walk_at "evd"
              exact hqi ⟨rfl, rfl⟩
        | nd w ms =>
          cases h with
          | nd _ _ _ hcs =>
            cases hnf with
            | nd _ _ q1 q2 q3 q4 q5 =>
              rw [Cn.size] at hsz
              have hl := szs_len ms
              have hcw : (Cn.nd w ms).w = wNd w := rfl
              rw [hcw] at hix
              have hdd := cn_nd_d w ms
              have hlen : gLen [(Cn.nd w ms).d] = some (iO ((ms.length + 1 : Nat) : Int)) := by rw [hdd, gLen_t, List.length_cons, List.length_map]
              have hfine : ∀ x ∈ ms, Fine x := fun x hx => cok_fine hN hR (hcs x hx) (by omega)
              have loop : Ev (forL (.n 2) (B__law_is_normal_0 (F__law_is_normal n)) (rngD 1 ((ms.length + 1 : Nat) : Int)) [some (.fr (Cn.nd w ms).d), some (sO (wNd w)), none]) (fun fl e => fl = .next ∧ ∃ q, e = [some (.fr (Cn.nd w ms).d), some (sO (wNd w)), q]) (fun _ _ => False) := by
                refine Ev_forL (fun i e => @Dn.hb _ ⟨fun e => ∃ q, e = [some (.fr (Cn.nd w ms).d), some (sO (wNd w)), q]⟩ e) _ _ _ ⟨_, rfl⟩ ?_ (fun e h => ⟨rfl, h⟩)
                rintro i x e hx ⟨q, rfl⟩
                obtain ⟨rfl, hi⟩ := rngD_get hx
                refine ⟨_, rfl, ?_⟩
                have hi' : i < ms.length := by omega
                obtain ⟨m, hm⟩ : ∃ m, ms[i]? = some m := ⟨ms[i], List.getElem?_eq_getElem hi'⟩
                have hmm : m ∈ ms := List.mem_of_getElem? hm
                have hk : gIx [(Cn.nd w ms).d, .int (1 + (i : Int))] = some (.fr m.d) := by
                  rw [hdd, gIx_t, show (1 + (i : Int)) = ((i + 1 : Nat) : Int) from by omega, atI_cn, List.getElem?_cons_succ, List.getElem?_map, hm]; rfl
                have hsl : gSl true true [(Cn.nd w ms).d, .int 1, .int (1 + (i : Int))] = some (.fr (.tup ((ms.map Cn.d).take i))) := by
                  rw [hdd, gSl11, slD_t, show (1 + (i : Int)) = ((i + 1 : Nat) : Int) from by omega, show (1 : Int) = ((1 : Nat) : Int) from rfl, cutD_mid (by omega) (by rw [List.length_cons, List.length_map]; omega), List.take_succ_cons, List.drop_succ_cons, List.drop_zero]
                have hn1 : ¬ m ∈ ms.take i := fun z => by
                  have e2 : ms = ms.take i ++ m :: ms.drop (i + 1) := by
                    conv => lhs; rw [← List.take_append_drop i ms]
                    congr 1
                    rw [List.drop_eq_getElem_cons hi']
                    congr 1
                    rw [List.getElem?_eq_getElem hi'] at hm
                    exact Option.some.inj hm
                  rw [e2] at q2
                  exact (List.nodup_append.mp q2).2.2 m z m List.mem_cons_self rfl
                have hin1 := in_cnT (hfine m hmm) (ys := ms.take i) fun y hy => hfine y (List.mem_of_mem_take hy)
                have hin1' : gIn [m.d, .tup ((ms.map Cn.d).take i)] = some (bO false) := by
                  rw [← List.map_take, hin1, decide_eq_false hn1]
                have hm0 := gIx0_cn m
                have hno : ¬ m.w ∈ [wNd w, sAlw, sNev] := fun z => by
                  rcases List.mem_cons.mp z with z | z
                  · obtain ⟨y, rfl⟩ := Cn.w_nd z; exact q5 _ hmm y rfl
                  · rcases List.mem_cons.mp z with z | z
                    · exact q4 _ hmm true (Cn.w_at (w := true) z)
                    · exact q4 _ hmm false (Cn.w_at (w := false) (List.mem_singleton.mp z))
                have hin2 := str_in (z := m.w) (zs := [wNd w, sAlw, sNev]) m.w_ok (by cases w <;> decide +kernel)
                rw [decide_eq_false hno] at hin2
                have hin2' : gIn [.str m.w, .lst [.str (wNd w), .str (PySem.Str.ofString "always"), .str (PySem.Str.ofString "never")]] = some (bO false) := hin2
                have hi2 := ih m n (hcs m hmm) (q3 m hmm) (by omega) (by
                  have := szs_sub (List.singleton_sublist.mpr hmm)
                  rw [Cn.sizes, Cn.sizes] at this
                  omega) (by omega)
                unfold B__law_is_normal_0
                clear ih hcs q1 q2 q3 q4 q5 hfine hin1 hin2 hno hn1 hm hmm hx hdd hi hi' hlen hix hl
                walk_at "evd"
                exact hbi ⟨_, rfl⟩
              obtain ⟨fl, e3, g1, rfl, q, rfl⟩ := loop.get
              have l1 : ¬ (((ms.length + 1 : Nat) : Int) < 3) := by omega
              have r1 : inR 1 = true := by decide
              have r2 : inR ((ms.length + 1 : Nat) : Int) = true := inR_pos (by omega) (by omega)
              have v1 := w1.symm
              have v2 := w2.symm
              have v3 := w3.symm
              clear ih hcs q1 q2 q3 q4 q5 hfine hdd hl hsz hlf hcw
              generalize ((ms.length + 1 : Nat) : Int) = LL at *
              cases w with
              | true =>
                rw [wNd_t] at hix g1
                clear w1 w2 w3 v2
                walk_at "evd"
                exact hqi ⟨rfl, rfl⟩
              | false =>
                rw [wNd_f] at hix g1
                clear v1 v3
                walk_at "evd"
                exact hqi ⟨rfl, rfl⟩
      · have n1 : ¬ c.w = PySem.Str.ofString "and" := fun z => hlf (by rw [z]; decide +kernel)
        have n2 : ¬ c.w = PySem.Str.ofString "or" := fun z => hlf (by rw [z]; decide +kernel)
        have n3 : ¬ c.w = PySem.Str.ofString "not" := fun z => hlf (by rw [z]; decide +kernel)
        clear hlf ih h hsz w1 w2 w3 hnf
        walk_at "evd"
        exact hqi ⟨rfl, rfl⟩
    obtain ⟨o, os, h, rfl, rfl⟩ := H.get
    exact h
open Classical in
theorem law_true (ns : List Int) (hl : ns.length ≤ 63) : ∃ os, F_law [.fr (.scr ns)] = some (.ok (bO true) os) := by
  obtain ⟨k, hk⟩ := deck_ok ns
  have H : FEv (F_law [.fr (.scr ns)]) (@hq _ _ ⟨fun o os => o = bO true⟩) (fun _ _ => False) := by
    have d5 := draw_ok k 5 (by omega) (by omega)
    have b5 := draw_bd k (b := 5) (by omega) (by omega)
    obtain ⟨nms, k2, n1, n2, n3⟩ := dnames_ex (dN k 5) (1 + dV k 5) (by omega) (by omega) [PySem.Str.ofString "self"] (fun z hz => by rw [List.mem_singleton.mp hz]; unfold LtrZ; decide +kernel)
    have n1' : F__law_names [dk (dN k 5), .fr (.int (1 + dV k 5)), .fr (.lst [.str (PySem.Str.ofString "self")])] = some (.ok (.lst (nms.map .str)) [dk k2, .fr (.int (1 + dV k 5)), .fr (.lst [.str (PySem.Str.ofString "self")])]) := n1
    have d3 := draw_ok k2 3 (by omega) (by omega)
    have b3 := draw_bd k2 (b := 3) (by omega) (by omega)
    obtain ⟨m, hm⟩ : ∃ m : Nat, dV k2 3 = m := ⟨_, (Int.toNat_of_nonneg b3.1).symm⟩
    obtain ⟨regs, hrl, hcut, hrm⟩ : ∃ regs : List Str, regs.length ≤ 100 ∧ cutD (nms.map D.str) none (some (m : Int)) = regs.map D.str ∧ ∀ z ∈ regs, z ∈ nms := ⟨nms.take m, by rw [List.length_take]; omega, by rw [cutD_hi, List.map_take], fun z hz => List.mem_of_mem_take hz⟩
    obtain ⟨c, k4, c1, c2, c3⟩ := dcond_ex (.lst (nms.map .str)) (.lst (regs.map .str)) nms regs rfl rfl (by omega) (by omega) hrl (dN k2 3) 6 (by omega) (by omega)
    rw [show ((6 : Nat) : Int) = 6 from rfl] at c1
    have hNm : ∀ z ∈ nms, LtrZ z := fun z hz => (n2 z hz).1
    have hRm : ∀ z ∈ regs, LtrZ z := fun z hz => hNm z (hrm z hz)
    have hln := (lnormal_ok hNm hRm 6 (by omega)).1 c 40 c2 (by omega) (by omega)
    have hnk := nrm_cok c 6 c2
    have hns := nrm_sz c
    have p1 := normal_ok hNm hRm 6 c 40 c2 (by omega) (by omega) (by omega)
    have p2 := normal_ok hNm hRm 6 c.nrm 40 hnk (by omega) (by omega) (by omega)
    rw [nf_nrm c.nrm (nrm_nf c)] at p2
    have hnn := isnormal_ok hNm hRm 6 c.nrm 40 hnk (nrm_nf c) (by omega) (by omega) (by omega)
    have hfn : Fine c.nrm := cok_fine hNm hRm hnk (by omega)
    have hne := ne_cn hfn hfn
    rw [decide_eq_true rfl] at hne
    have htp : ∃ ds, c.nrm.d = .tup ds := ⟨_, c.nrm.d_e⟩
    have hcd : ∃ ds, c.d = .tup ds := ⟨_, c.d_e⟩
    obtain ⟨ds, hds⟩ := htp
    obtain ⟨es, hes⟩ := hcd
    rw [hds] at hln p1 p2 hnn hne
    rw [hes] at hln p1 c1
    unfold F_law G_law
    clear n1 n2 n3 hNm hRm c2 c3 b5 b3 hnk hns hfn hds hes
    have body : ∀ (q4 : Option O) (x : D) (q7 : Option O) (a0 a1 a2 a3 : Option O), (F_normal 40 [.fr x] = some (.ok (.fr (.tup ds)) [.fr x])) → Ev (B_law_0 [a0, a1, a2, a3, q4, some (.fr (.tup ds)), some (.fr x), q7]) (fun fl e => fl = .next ∧ e = [a0, a1, a2, a3, q4, some (.fr (.tup ds)), some (.fr x), some (.fr (.tup ds))]) (fun _ _ => False) := by
      intro q4 x q7 a0 a1 a2 a3 hx
      unfold B_law_0
      clear p1 p2 hln c1 n1' hk d5 d3 hcut
      walk_at "evd"
    have loop : ∀ (q4 : Option O) (q6 q7 : Option O) (a0 a1 a2 a3 : Option O), Ev (forL (.n 6) B_law_0 [.tup es, .tup ds, .tup es] [a0, a1, a2, a3, q4, some (.fr (.tup ds)), q6, q7]) (fun fl e => fl = .next ∧ ∃ r, e = a0 :: r) (fun _ _ => False) := by
      intro q4 q6 q7 a0 a1 a2 a3
      refine Ev_forP (f := id) (fun done e => @Dn.hb _ ⟨fun e => ∃ q6 q7, e = [a0, a1, a2, a3, q4, some (.fr (.tup ds)), q6, q7]⟩ e) _ [.tup es, .tup ds, .tup es] [] _ ⟨_, _, rfl⟩ ?_ ?_
      · rintro pre x post e he ⟨q6, q7, rfl⟩
        refine ⟨_, rfl, ?_⟩
        have hx : F_normal 40 [.fr x] = some (.ok (.fr (.tup ds)) [.fr x]) := by
          have : x ∈ [D.tup es, .tup ds, .tup es] := mem_mid he
          simp only [List.mem_cons, List.not_mem_nil, or_false] at this
          rcases this with rfl | rfl | rfl
          · exact p1
          · exact p2
          · exact p1
        exact (body q4 x q7 a0 a1 a2 a3 hx).mono (fun fl e ⟨h1, h2⟩ => by subst h1; exact ⟨_, _, h2⟩) fun _ _ z => z
      · rintro e ⟨q6, q7, rfl⟩
        exact ⟨rfl, _, rfl⟩
    clear body p1 p2 hnn hne
    obtain ⟨fl, e3, g1, rfl, r, rfl⟩ := (loop (some (.fr (.tup es))) none none (some (.fr (.scr ns))) (some (dk k4)) (some (.lst (nms.map .str))) (some (.lst (regs.map .str)))).get
    clear loop
    walk_at "evd"
    exact (rfl : (bO true : O) = bO true)
  obtain ⟨o, os, h, rfl⟩ := H.get
  exact ⟨os, h⟩
theorem all_mk {l : PySem.W.OpenLaw} {w : World} {K : PySem.W.Frag} {h : Heap} {mg : Str → Option Value} {fa f1 f2 f3 f4 f5 f6 f7 f8 f9 f10 f11 f12 f13 f14 f15 : Addr} (X : K.In h) (G : h.Ns mainGlobals mg) (hfa : mg "law" = some (.ref fa))
    {od1 an1 od2 an2 od3 an3 od4 an4 od5 an5 od6 an6 od7 an7 od8 an8 od9 an9 od10 an10 od11 an11 od12 an12 od13 an13 od14 an14 od15 an15 : Option Addr} {sl1 sl2 sl3 sl4 sl5 sl6 sl7 sl8 sl9 sl10 sl11 sl12 sl13 sl14 sl15 : Array (Option Value)} {oc1 kV1 dc1 pm1 cd1 ct1 oc2 kV2 dc2 pm2 cd2 ct2 oc3 kV3 dc3 pm3 cd3 ct3 oc4 kV4 dc4 pm4 cd4 ct4 oc5 kV5 dc5 pm5 cd5 ct5 oc6 kV6 dc6 pm6 cd6 ct6 oc7 kV7 dc7 pm7 cd7 ct7 oc8 kV8 dc8 pm8 cd8 ct8 oc9 kV9 dc9 pm9 cd9 ct9 oc10 kV10 dc10 pm10 cd10 ct10 oc11 kV11 dc11 pm11 cd11 ct11 oc12 kV12 dc12 pm12 cd12 ct12 oc13 kV13 dc13 pm13 cd13 ct13 oc14 kV14 dc14 pm14 cd14 ct14 oc15 kV15 dc15 pm15 cd15 ct15 : Value}
    {t_ALWAYS_0 t_NEVER_0 : Tok}
    {r_ALWAYS r_NEVER : Addr} {dd_ALWAYS dd_NEVER : Option Addr} {nn_ALWAYS nn_NEVER : Nat} {sl_ALWAYS sl_NEVER : Array (Option Value)}
    (a1 : PySem.W.nsIn K mainGlobals "_law_deck" = some (some (.ref f1))) (l1 : K.lookup f1 = some ⟨oc1, od1, .func (PySem.W.fnOf "_law_deck" "_law_deck" (defArgs s__law_deck) (defBody s__law_deck) (defScope s__law_deck) .none kV1 dc1 pm1 an1 cd1 ct1), sl1⟩) (c1 : PySem.W.codeIn K cd1 "_law_deck" = true) (k1 : PySem.W.keepIn K (.ref f1) = true)
    (a2 : PySem.W.nsIn K mainGlobals "_law_draw" = some (some (.ref f2))) (l2 : K.lookup f2 = some ⟨oc2, od2, .func (PySem.W.fnOf "_law_draw" "_law_draw" (defArgs s__law_draw) (defBody s__law_draw) (defScope s__law_draw) .none kV2 dc2 pm2 an2 cd2 ct2), sl2⟩) (c2 : PySem.W.codeIn K cd2 "_law_draw" = true) (k2 : PySem.W.keepIn K (.ref f2) = true)
    (a3 : PySem.W.nsIn K mainGlobals "_law_letter" = some (some (.ref f3))) (l3 : K.lookup f3 = some ⟨oc3, od3, .func (PySem.W.fnOf "_law_letter" "_law_letter" (defArgs s__law_letter) (defBody s__law_letter) (defScope s__law_letter) .none kV3 dc3 pm3 an3 cd3 ct3), sl3⟩) (c3 : PySem.W.codeIn K cd3 "_law_letter" = true) (k3 : PySem.W.keepIn K (.ref f3) = true)
    (a4 : PySem.W.nsIn K mainGlobals "_law_text" = some (some (.ref f4))) (l4 : K.lookup f4 = some ⟨oc4, od4, .func (PySem.W.fnOf "_law_text" "_law_text" (defArgs s__law_text) (defBody s__law_text) (defScope s__law_text) .none kV4 dc4 pm4 an4 cd4 ct4), sl4⟩) (c4 : PySem.W.codeIn K cd4 "_law_text" = true) (k4 : PySem.W.keepIn K (.ref f4) = true)
    (a5 : PySem.W.nsIn K mainGlobals "_law_names" = some (some (.ref f5))) (l5 : K.lookup f5 = some ⟨oc5, od5, .func (PySem.W.fnOf "_law_names" "_law_names" (defArgs s__law_names) (defBody s__law_names) (defScope s__law_names) .none kV5 dc5 pm5 an5 cd5 ct5), sl5⟩) (c5 : PySem.W.codeIn K cd5 "_law_names" = true) (k5 : PySem.W.keepIn K (.ref f5) = true)
    (a6 : PySem.W.nsIn K mainGlobals "_law_pattern" = some (some (.ref f6))) (l6 : K.lookup f6 = some ⟨oc6, od6, .func (PySem.W.fnOf "_law_pattern" "_law_pattern" (defArgs s__law_pattern) (defBody s__law_pattern) (defScope s__law_pattern) .none kV6 dc6 pm6 an6 cd6 ct6), sl6⟩) (c6 : PySem.W.codeIn K cd6 "_law_pattern" = true) (k6 : PySem.W.keepIn K (.ref f6) = true)
    (a7 : PySem.W.nsIn K mainGlobals "_law_part" = some (some (.ref f7))) (l7 : K.lookup f7 = some ⟨oc7, od7, .func (PySem.W.fnOf "_law_part" "_law_part" (defArgs s__law_part) (defBody s__law_part) (defScope s__law_part) .none kV7 dc7 pm7 an7 cd7 ct7), sl7⟩) (c7 : PySem.W.codeIn K cd7 "_law_part" = true) (k7 : PySem.W.keepIn K (.ref f7) = true)
    (a8 : PySem.W.nsIn K mainGlobals "_law_condition" = some (some (.ref f8))) (l8 : K.lookup f8 = some ⟨oc8, od8, .func (PySem.W.fnOf "_law_condition" "_law_condition" (defArgs s__law_condition) (defBody s__law_condition) (defScope s__law_condition) .none kV8 dc8 pm8 an8 cd8 ct8), sl8⟩) (c8 : PySem.W.codeIn K cd8 "_law_condition" = true) (k8 : PySem.W.keepIn K (.ref f8) = true)
    (a9 : PySem.W.nsIn K mainGlobals "_law_normal" = some (some (.ref f9))) (l9 : K.lookup f9 = some ⟨oc9, od9, .func (PySem.W.fnOf "_law_normal" "_law_normal" (defArgs s__law_normal) (defBody s__law_normal) (defScope s__law_normal) .none kV9 dc9 pm9 an9 cd9 ct9), sl9⟩) (c9 : PySem.W.codeIn K cd9 "_law_normal" = true) (k9 : PySem.W.keepIn K (.ref f9) = true)
    (a10 : PySem.W.nsIn K mainGlobals "_law_collect" = some (some (.ref f10))) (l10 : K.lookup f10 = some ⟨oc10, od10, .func (PySem.W.fnOf "_law_collect" "_law_collect" (defArgs s__law_collect) (defBody s__law_collect) (defScope s__law_collect) .none kV10 dc10 pm10 an10 cd10 ct10), sl10⟩) (c10 : PySem.W.codeIn K cd10 "_law_collect" = true) (k10 : PySem.W.keepIn K (.ref f10) = true)
    (a11 : PySem.W.nsIn K mainGlobals "normal" = some (some (.ref f11))) (l11 : K.lookup f11 = some ⟨oc11, od11, .func (PySem.W.fnOf "normal" "normal" (defArgs s_normal) (defBody s_normal) (defScope s_normal) .none kV11 dc11 pm11 an11 cd11 ct11), sl11⟩) (c11 : PySem.W.codeIn K cd11 "normal" = true) (k11 : PySem.W.keepIn K (.ref f11) = true)
    (a12 : PySem.W.nsIn K mainGlobals "joined" = some (some (.ref f12))) (l12 : K.lookup f12 = some ⟨oc12, od12, .func (PySem.W.fnOf "joined" "joined" (defArgs s_joined) (defBody s_joined) (defScope s_joined) .none kV12 dc12 pm12 an12 cd12 ct12), sl12⟩) (c12 : PySem.W.codeIn K cd12 "joined" = true) (k12 : PySem.W.keepIn K (.ref f12) = true)
    (a13 : PySem.W.nsIn K mainGlobals "members_of" = some (some (.ref f13))) (l13 : K.lookup f13 = some ⟨oc13, od13, .func (PySem.W.fnOf "members_of" "members_of" (defArgs s_members_of) (defBody s_members_of) (defScope s_members_of) .none kV13 dc13 pm13 an13 cd13 ct13), sl13⟩) (c13 : PySem.W.codeIn K cd13 "members_of" = true) (k13 : PySem.W.keepIn K (.ref f13) = true)
    (a14 : PySem.W.nsIn K mainGlobals "_law_is_normal" = some (some (.ref f14))) (l14 : K.lookup f14 = some ⟨oc14, od14, .func (PySem.W.fnOf "_law_is_normal" "_law_is_normal" (defArgs s__law_is_normal) (defBody s__law_is_normal) (defScope s__law_is_normal) .none kV14 dc14 pm14 an14 cd14 ct14), sl14⟩) (c14 : PySem.W.codeIn K cd14 "_law_is_normal" = true) (k14 : PySem.W.keepIn K (.ref f14) = true)
    (a15 : PySem.W.nsIn K mainGlobals "law" = some (some (.ref f15))) (l15 : K.lookup f15 = some ⟨oc15, od15, .func (PySem.W.fnOf "law" "law" (defArgs s_law) (defBody s_law) (defScope s_law) .none kV15 dc15 pm15 an15 cd15 ct15), sl15⟩) (c15 : PySem.W.codeIn K cd15 "law" = true) (k15 : PySem.W.keepIn K (.ref f15) = true)
    (z_abs : PySem.W.nsIn K mainGlobals "abs" = some none)
    (z_int : PySem.W.nsIn K mainGlobals "int" = some none)
    (z_isinstance : PySem.W.nsIn K mainGlobals "isinstance" = some none)
    (z_len : PySem.W.nsIn K mainGlobals "len" = some none)
    (z_list : PySem.W.nsIn K mainGlobals "list" = some none)
    (z_min : PySem.W.nsIn K mainGlobals "min" = some none)
    (z_range : PySem.W.nsIn K mainGlobals "range" = some none)
    (z_tuple : PySem.W.nsIn K mainGlobals "tuple" = some none)
    (q_ALWAYS : PySem.W.nsIn K mainGlobals "ALWAYS" = some (some (.ref r_ALWAYS))) (p_ALWAYS : K.lookup r_ALWAYS = some ⟨.type "tuple", dd_ALWAYS, .seq #[.str (PySem.Str.ofString "always") t_ALWAYS_0] nn_ALWAYS, sl_ALWAYS⟩)
    (q_NEVER : PySem.W.nsIn K mainGlobals "NEVER" = some (some (.ref r_NEVER))) (p_NEVER : K.lookup r_NEVER = some ⟨.type "tuple", dd_NEVER, .seq #[.str (PySem.Str.ofString "never") t_NEVER_0] nn_NEVER, sl_NEVER⟩)
    : ∃ fd : FuncData, (∀ (s : Shared) (v : Value), BindsTo s fd ⟨[v], []⟩ [("_law_script", v)]) ∧ ∀ base : Heap, K.In base → base.Ns mainGlobals mg → FnOk l.prog w K mg base (L2.CX l.prog w) 46 fa fd [(PySem.Str.ofString "_law_script")] (spLaw K) := by
  have e := hfa.symm.trans (PySem.W.mg_of X G a15)
  cases e
  have m_abs := PySem.W.mg_none_of X G z_abs
  have m_int := PySem.W.mg_none_of X G z_int
  have m_isinstance := PySem.W.mg_none_of X G z_isinstance
  have m_len := PySem.W.mg_none_of X G z_len
  have m_list := PySem.W.mg_none_of X G z_list
  have m_min := PySem.W.mg_none_of X G z_min
  have m_range := PySem.W.mg_none_of X G z_range
  have m_tuple := PySem.W.mg_none_of X G z_tuple
  have g_ALWAYS : TupC K mg "ALWAYS" [D.str (PySem.Str.ofString "always")] := ⟨⟨r_ALWAYS, _, _, _, [V.str (PySem.Str.ofString "always")], PySem.W.mg_of X G q_ALWAYS, p_ALWAYS, rfl, rfl, (by show 1 ≤ sizeLine; rw [sizeLine_eq]; omega), .cons ⟨_, rfl⟩ (.nil), fun B => .cons (.str _) (.nil)⟩⟩
  have g_NEVER : TupC K mg "NEVER" [D.str (PySem.Str.ofString "never")] := ⟨⟨r_NEVER, _, _, _, [V.str (PySem.Str.ofString "never")], PySem.W.mg_of X G q_NEVER, p_NEVER, rfl, rfl, (by show 1 ≤ sizeLine; rw [sizeLine_eq]; omega), .cons ⟨_, rfl⟩ (.nil), fun B => .cons (.str _) (.nil)⟩⟩
  have F1 := fun_mk (st := s__law_deck) l1 c1 k1
  have F2 := fun_mk (st := s__law_draw) l2 c2 k2
  have F3 := fun_mk (st := s__law_letter) l3 c3 k3
  have F4 := fun_mk (st := s__law_text) l4 c4 k4
  have F5 := fun_mk (st := s__law_names) l5 c5 k5
  have F6 := fun_mk (st := s__law_pattern) l6 c6 k6
  have F7 := fun_mk (st := s__law_part) l7 c7 k7
  have F8 := fun_mk (st := s__law_condition) l8 c8 k8
  have F9 := fun_mk (st := s__law_normal) l9 c9 k9
  have F10 := fun_mk (st := s__law_collect) l10 c10 k10
  have F11 := fun_mk (st := s_normal) l11 c11 k11
  have F12 := fun_mk (st := s_joined) l12 c12 k12
  have F13 := fun_mk (st := s_members_of) l13 c13 k13
  have F14 := fun_mk (st := s__law_is_normal) l14 c14 k14
  have F15 := fun_mk (st := s_law) l15 c15 k15
  refine ⟨PySem.W.fnOf "law" "law" (defArgs s_law) (defBody s_law) (defScope s_law) .none kV15 dc15 pm15 an15 cd15 ct15, fun s v => .of_eq rfl, fun base Xb Gb => ?_⟩
  have o__law_deck := ok__law_deck (P := l.prog) (w := w) (mg := mg) (base := base) F1 m_int m_list
  have c__law_deck : Cl l.prog w K mg base 1 "_law_deck" 1 F__law_deck [] := cl_mk o__law_deck (PySem.W.mg_of X G a1) k1 (F1.binds fun _ _ _ _ _ _ us hl => match us, hl with | [_], _ => rfl)
  have o__law_draw := ok__law_draw (P := l.prog) (w := w) (mg := mg) (base := base) F2 m_abs m_int m_len
  have c__law_draw : Cl l.prog w K mg base 1 "_law_draw" 2 F__law_draw [] := cl_mk o__law_draw (PySem.W.mg_of X G a2) k2 (F2.binds fun _ _ _ _ _ _ us hl => match us, hl with | [_, _], _ => rfl)
  have o__law_letter := ok__law_letter (P := l.prog) (w := w) (mg := mg) (base := base) F3 c__law_draw
  have c__law_letter : Cl l.prog w K mg base 2 "_law_letter" 1 F__law_letter [] := cl_mk o__law_letter (PySem.W.mg_of X G a3) k3 (F3.binds fun _ _ _ _ _ _ us hl => match us, hl with | [_], _ => rfl)
  have o__law_text := ok__law_text (P := l.prog) (w := w) (mg := mg) (base := base) F4 c__law_draw c__law_letter m_range
  have c__law_text : Cl l.prog w K mg base 3 "_law_text" 2 F__law_text [] := cl_mk o__law_text (PySem.W.mg_of X G a4) k4 (F4.binds fun _ _ _ _ _ _ us hl => match us, hl with | [_, _], _ => rfl)
  have o__law_names := ok__law_names (P := l.prog) (w := w) (mg := mg) (base := base) F5 c__law_letter c__law_text m_int m_range
  have c__law_names : Cl l.prog w K mg base 4 "_law_names" 3 F__law_names [] := cl_mk o__law_names (PySem.W.mg_of X G a5) k5 (F5.binds fun _ _ _ _ _ _ us hl => match us, hl with | [_, _, _], _ => rfl)
  have o__law_pattern := ok__law_pattern (P := l.prog) (w := w) (mg := mg) (base := base) F6 c__law_draw c__law_letter m_range
  have c__law_pattern : Cl l.prog w K mg base 3 "_law_pattern" 1 F__law_pattern [] := cl_mk o__law_pattern (PySem.W.mg_of X G a6) k6 (F6.binds fun _ _ _ _ _ _ us hl => match us, hl with | [_], _ => rfl)
  have o__law_part := ok__law_part (P := l.prog) (w := w) (mg := mg) (base := base) F7 (PySem.W.mg_of X G a7) k7 c__law_draw c__law_pattern m_len m_min m_range m_tuple 40
  have c__law_part : Cl l.prog w K mg base 44 "_law_part" 4 (Lw.F__law_part 40) [] := cl_mk o__law_part (PySem.W.mg_of X G a7) k7 (F7.binds fun _ _ _ _ _ _ us hl => match us, hl with | [_, _, _, _], _ => rfl)
  have o__law_condition := ok__law_condition (P := l.prog) (w := w) (mg := mg) (base := base) F8 c__law_part
  have c__law_condition : Cl l.prog w K mg base 45 "_law_condition" 4 F__law_condition [] := cl_mk o__law_condition (PySem.W.mg_of X G a8) k8 (F8.binds fun _ _ _ _ _ _ us hl => match us, hl with | [_, _, _, _], _ => rfl)
  have o__law_normal := ok__law_normal (P := l.prog) (w := w) (mg := mg) (base := base) F9 (PySem.W.mg_of X G a9) k9 F10 (PySem.W.mg_of X G a10) k10 m_len m_list m_tuple 40
  have c__law_normal : Cl l.prog w K mg base 41 "_law_normal" 1 (Lw.F__law_normal 40) [] := cl_mk o__law_normal.1 (PySem.W.mg_of X G a9) k9 (F9.binds fun _ _ _ _ _ _ us hl => match us, hl with | [_], _ => rfl)
  have c__law_collect : Cl l.prog w K mg base 41 "_law_collect" 3 (Lw.F__law_collect 40) [] := cl_mk o__law_normal.2 (PySem.W.mg_of X G a10) k10 (F10.binds fun _ _ _ _ _ _ us hl => match us, hl with | [_, _, _], _ => rfl)
  have o_normal := ok_normal (P := l.prog) (w := w) (mg := mg) (base := base) F11 (PySem.W.mg_of X G a11) k11 F12 (PySem.W.mg_of X G a12) k12 F13 (PySem.W.mg_of X G a13) k13 g_ALWAYS g_NEVER m_len m_tuple 40
  have c_normal : Cl l.prog w K mg base 41 "normal" 1 (Lw.F_normal 40) [] := cl_mk o_normal.1 (PySem.W.mg_of X G a11) k11 (F11.binds fun _ _ _ _ _ _ us hl => match us, hl with | [_], _ => rfl)
  have c_joined : Cl l.prog w K mg base 41 "joined" 4 (Lw.F_joined 40) [] := cl_mk o_normal.2.1 (PySem.W.mg_of X G a12) k12 (F12.binds fun _ _ _ _ _ _ us hl => match us, hl with | [_, _, _, _], _ => rfl)
  have c_members_of : Cl l.prog w K mg base 41 "members_of" 2 (Lw.F_members_of 40) [] := cl_mk o_normal.2.2 (PySem.W.mg_of X G a13) k13 (F13.binds fun _ _ _ _ _ _ us hl => match us, hl with | [_, _], _ => rfl)
  have o__law_is_normal := ok__law_is_normal (P := l.prog) (w := w) (mg := mg) (base := base) F14 (PySem.W.mg_of X G a14) k14 m_len m_range 40
  have c__law_is_normal : Cl l.prog w K mg base 41 "_law_is_normal" 1 (Lw.F__law_is_normal 40) [] := cl_mk o__law_is_normal (PySem.W.mg_of X G a14) k14 (F14.binds fun _ _ _ _ _ _ us hl => match us, hl with | [_], _ => rfl)
  have o_law := ok_law (P := l.prog) (w := w) (mg := mg) (base := base) F15 c__law_condition c__law_deck c__law_draw c__law_is_normal c__law_names c__law_normal c_normal m_isinstance m_tuple
  exact law_sp o_law law_true
end Lw
open PySem PySem.W PyProof.Rows
set_option maxHeartbeats 0 in
theorem PySem.Challenge.cw_talkalike_k26_normal_form_is_one_holds : PySem.Challenge.rw_talkalike_k26_normal_form_is_one.Holds := by
  w_on; o_law; k_head; (case hw => w_witness2)
  k_fill
  refine L2.walk_of (l := PySem.Challenge.rw_talkalike_k26_normal_form_is_one) (n := 63) (k := 46) (x := "_law_script") (CX := fun w => L2.CX PySem.Challenge.rw_talkalike_k26_normal_form_is_one.prog w) (sp := fun w => Dn.spLaw _) rfl (by decide) rfl ⟨rfl, by decide, by decide⟩ (fun w h Y => PySem.W.kIn_of Y) ?F (fun _ _ a ns hl _ hS => ⟨a, ns, rfl, hS, hl, fun _ => rfl⟩) (fun _ H s e s' h => Dn.law_cx H s e s' h)
  case F =>
    intro w mg fa h KX G hmg
    refine' Lw.all_mk KX G hmg ?a1 ?l1 ?c1 ?k1 ?a2 ?l2 ?c2 ?k2 ?a3 ?l3 ?c3 ?k3 ?a4 ?l4 ?c4 ?k4 ?a5 ?l5 ?c5 ?k5 ?a6 ?l6 ?c6 ?k6 ?a7 ?l7 ?c7 ?k7 ?a8 ?l8 ?c8 ?k8 ?a9 ?l9 ?c9 ?k9 ?a10 ?l10 ?c10 ?k10 ?a11 ?l11 ?c11 ?k11 ?a12 ?l12 ?c12 ?k12 ?a13 ?l13 ?c13 ?k13 ?a14 ?l14 ?c14 ?k14 ?a15 ?l15 ?c15 ?k15 ?z_abs ?z_int ?z_isinstance ?z_len ?z_list ?z_min ?z_range ?z_tuple ?q_ALWAYS ?p_ALWAYS ?q_NEVER ?p_NEVER
    (case a1 => k_is); (case l1 => k_is); (case c1 => k_is); (case k1 => k_is); (case a2 => k_is); (case l2 => k_is); (case c2 => k_is); (case k2 => k_is); (case a3 => k_is); (case l3 => k_is); (case c3 => k_is); (case k3 => k_is); (case a4 => k_is); (case l4 => k_is); (case c4 => k_is); (case k4 => k_is); (case a5 => k_is); (case l5 => k_is); (case c5 => k_is); (case k5 => k_is); (case a6 => k_is); (case l6 => k_is); (case c6 => k_is); (case k6 => k_is); (case a7 => k_is); (case l7 => k_is); (case c7 => k_is); (case k7 => k_is); (case a8 => k_is); (case l8 => k_is); (case c8 => k_is); (case k8 => k_is); (case a9 => k_is); (case l9 => k_is); (case c9 => k_is); (case k9 => k_is); (case a10 => k_is); (case l10 => k_is); (case c10 => k_is); (case k10 => k_is); (case a11 => k_is); (case l11 => k_is); (case c11 => k_is); (case k11 => k_is); (case a12 => k_is); (case l12 => k_is); (case c12 => k_is); (case k12 => k_is); (case a13 => k_is); (case l13 => k_is); (case c13 => k_is); (case k13 => k_is); (case a14 => k_is); (case l14 => k_is); (case c14 => k_is); (case k14 => k_is); (case a15 => k_is); (case l15 => k_is); (case c15 => k_is); (case k15 => k_is); (case z_abs => k_is); (case z_int => k_is); (case z_isinstance => k_is); (case z_len => k_is); (case z_list => k_is); (case z_min => k_is); (case z_range => k_is); (case z_tuple => k_is); (case q_ALWAYS => k_is); (case p_ALWAYS => k_is); (case q_NEVER => k_is); (case p_NEVER => k_is)
