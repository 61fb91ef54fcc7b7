import PyProof.Rows.All
import Wide.All
import OpenK.AllK
import Wide.FinOn
import HandS.ForMost
import HandS.Walk
import HandS.Deep
import HandS.Evl
import HandS.ExcOwn
import HandS.WordsExc
import HandS.CallSlots
import HandS.TupAny
import HandS.Style
import HandS.IsInst
import KE.DataCmp
import HandS.StrMore
import HandS.Replace
import HandS.Zip
import HandS.More
import HandS.ExcInit
import HandS.ExcField
import HandS.TryOnly
import HandS.Defaults
import HandS.ClsMeth
import HandS.ExcIs
import KE.KExcIs
import HandS.Property
import HandS.RaiseMore
import PySem.Challenge.RW_talkalike_k32_service_written
set_option Elab.async false
set_option linter.all false
set_option maxRecDepth 100000
set_option maxHeartbeats 2000000
set_option autoImplicit false

/-! # A denotational layer over HandS: what an expression, a statement, a def computes, as a plain Lean function on data (no heap, no addresses); shown sound once, rule by rule -/
namespace Dn
open PySem L2
open Evl (Ex)

/-! ## 1. Data -/
inductive D where
  | non | bl (b : Bool) | int (i : Int) | str (s : Str) | lst (xs : List D) | tup (xs : List D) | scr (ns : List Int)
  /-- any value: nothing is known of it -/
  | opq
  /-- a dict: its keys and values in order -/
  | dct (ks : List L2.Key) (xs : List D)
  /-- an instance of the program's class c: its attributes in order -/
  | ins (c : Str) (ns : List Str) (xs : List D)
/-- an error: its class's name, and what its own fields hold -/
structure Exn where
  cls : Str
  fs : List (Str × D)
/-- what a slot holds: frozen data, a list of its own that may still change, a dict of its own, an error that was caught (at a, its fields at d) -/
inductive O where
  | fr (d : D) | lst (xs : List D) | dct (ks : List L2.Key) (xs : List D) | ins (c : Str) (ns : List Str) (xs : List D) | exn (a d : Addr) (x : Exn)
def O.d : O → D
  | .fr d => d
  | .lst xs => .lst xs
  | .dct ks xs => .dct ks xs
  | .ins c ns xs => .ins c ns xs
  | .exn _ _ _ => .opq
@[simp] theorem O.d_fr (d : D) : (O.fr d).d = d := rfl
@[simp] theorem O.d_lst (xs : List D) : (O.lst xs).d = .lst xs := rfl
@[simp] theorem O.d_dct (ks : List L2.Key) (xs : List D) : (O.dct ks xs).d = .dct ks xs := rfl
@[simp] theorem O.d_ins (c : Str) (ns : List Str) (xs : List D) : (O.ins c ns xs).d = .ins c ns xs := rfl
/-- the program's class c stands at C -/
def ClsN (K : PySem.W.Frag) (c : Str) (C : Addr) : Prop := PySem.W.nsIn K mainGlobals c = some (some (.ref C))

mutual
inductive Rep (K : PySem.W.Frag) (B : Hp) : V → D → Prop
  | non : Rep K B .non .non
  | bl (b : Bool) : Rep K B (.bl b) (.bl b)
  | int (i : Int) : Rep K B (.int i) (.int i)
  | str (x : Str) : Rep K B (.str x) (.str x)
  | lst {a : Addr} {xs : List V} {ds : List D} : B a = some (.lst xs) → RepL K B xs ds → Rep K B (.ref a) (.lst ds)
  | tup {a : Addr} {xs : List V} {ds : List D} : SqT K B a xs → RepL K B xs ds → Rep K B (.ref a) (.tup ds)
  | scr {a : Addr} {ns : List Int} : SqL K B a (ns.map V.int) → Rep K B (.ref a) (.scr ns)
  | opq (v : V) : Rep K B v .opq
  | dct {a : Addr} {kv : List (L2.Key × V)} {ks : List L2.Key} {ds : List D} : B a = some (.dK kv) → kv.map (·.1) = ks → RepL K B (kv.map (·.2)) ds → Rep K B (.ref a) (.dct ks ds)
  | ins {a dx C : Addr} {fs : List (Str × V)} {c : Str} {ns : List Str} {ds : List D} : B a = some (.ins C dx fs) → ClsN K c C → fs.map (·.1) = ns → RepL K B (fs.map (·.2)) ds → Rep K B (.ref a) (.ins c ns ds)
inductive RepL (K : PySem.W.Frag) (B : Hp) : List V → List D → Prop
  | nil : RepL K B [] []
  | cons {v : V} {vs : List V} {d : D} {ds : List D} : Rep K B v d → RepL K B vs ds → RepL K B (v :: vs) (d :: ds)
end

section
variable {K : PySem.W.Frag} {B B' H H' : Hp} {v : V} {d : D} {vs : List V} {ds : List D}
mutual
theorem Rep.mono (e : Ex B B') : ∀ {v : V} {d : D}, Rep K B v d → Rep K B' v d
  | _, _, .non => .non
  | _, _, .bl b => .bl b
  | _, _, .int i => .int i
  | _, _, .str x => .str x
  | _, _, .opq v => .opq v
  | _, _, .dct h hk hs => .dct (e _ _ h) hk (RepL.mono e hs)
  | _, _, .ins h hc hk hs => .ins (e _ _ h) hc hk (RepL.mono e hs)
  | _, _, .lst h hs => .lst (e _ _ h) (RepL.mono e hs)
  | _, _, .scr h => .scr (Evl.ex_l e h)
  | _, _, .tup h hs => .tup (Evl.ex_t e h) (RepL.mono e hs)
theorem RepL.mono (e : Ex B B') : ∀ {vs : List V} {ds : List D}, RepL K B vs ds → RepL K B' vs ds
  | _, _, .nil => .nil
  | _, _, .cons h hs => .cons (Rep.mono e h) (RepL.mono e hs)
end
theorem RepL.length : ∀ {vs : List V} {ds : List D}, RepL K B vs ds → vs.length = ds.length
  | _, _, .nil => rfl
  | _, _, .cons _ hs => by rw [List.length_cons, List.length_cons, hs.length]
theorem RepL.get : ∀ {vs : List V} {ds : List D} {i : Nat} {d : D}, RepL K B vs ds → ds[i]? = some d → ∃ v, vs[i]? = some v ∧ Rep K B v d
  | _, _, _, _, .nil, e => by simp at e
  | _, _, 0, _, .cons h _, e => by simp at e; subst e; exact ⟨_, rfl, h⟩
  | _, _, i + 1, d, .cons _ hs, e => by
    obtain ⟨v, e1, e2⟩ := RepL.get (i := i) (d := d) hs (by simpa using e)
    exact ⟨v, by simpa using e1, e2⟩
theorem RepL.get' : ∀ {vs : List V} {ds : List D} {i : Nat} {v : V}, RepL K B vs ds → vs[i]? = some v → ∃ d, ds[i]? = some d ∧ Rep K B v d
  | _, _, _, _, .nil, e => by simp at e
  | _, _, 0, _, .cons h _, e => by simp at e; subst e; exact ⟨_, rfl, h⟩
  | _, _, i + 1, v, .cons _ hs, e => by
    obtain ⟨d, e1, e2⟩ := RepL.get' (i := i) (v := v) hs (by simpa using e)
    exact ⟨d, by simpa using e1, e2⟩
theorem RepL.append : ∀ {vs ws : List V} {ds es : List D}, RepL K B vs ds → RepL K B ws es → RepL K B (vs ++ ws) (ds ++ es)
  | _, _, _, _, .nil, h => h
  | _, _, _, _, .cons h hs, k => .cons h (RepL.append hs k)
theorem RepL.take : ∀ {vs : List V} {ds : List D} (n : Nat), RepL K B vs ds → RepL K B (vs.take n) (ds.take n)
  | _, _, 0, _ => .nil
  | _, _, _ + 1, .nil => .nil
  | _, _, n + 1, .cons h hs => .cons h (RepL.take n hs)
theorem RepL.drop : ∀ {vs : List V} {ds : List D} (n : Nat), RepL K B vs ds → RepL K B (vs.drop n) (ds.drop n)
  | _, _, 0, h => h
  | _, _, _ + 1, .nil => .nil
  | _, _, n + 1, .cons _ hs => RepL.drop n hs
theorem RepL.set : ∀ {vs : List V} {ds : List D} (n : Nat) {v : V} {d : D}, RepL K B vs ds → Rep K B v d → RepL K B (vs.set n v) (ds.set n d)
  | _, _, _, _, _, .nil, _ => .nil
  | _, _, 0, _, _, .cons _ hs, k => .cons k hs
  | _, _, n + 1, _, _, .cons h hs, k => .cons h (RepL.set n hs k)
theorem RepL.erase : ∀ {vs : List V} {ds : List D} (n : Nat), RepL K B vs ds → RepL K B (vs.eraseIdx n) (ds.eraseIdx n)
  | _, _, _, .nil => .nil
  | _, _, 0, .cons _ hs => hs
  | _, _, n + 1, .cons h hs => .cons h (RepL.erase n hs)
theorem RepL.reverse {vs : List V} {ds : List D} (h : RepL K B vs ds) : RepL K B vs.reverse ds.reverse := by
  induction ds generalizing vs with
  | nil => cases h; exact .nil
  | cons d ds ih =>
    cases h with
    | cons h hs =>
      rw [List.reverse_cons, List.reverse_cons]
      exact (ih hs).append (.cons h .nil)
theorem RepL.one (h : Rep K B v d) : RepL K B [v] [d] := .cons h .nil

theorem repL_ints : ∀ ns : List Int, RepL K B (ns.map V.int) (ns.map D.int)
  | [] => .nil
  | n :: ns => .cons (.int n) (repL_ints ns)
theorem repL_strs : ∀ ns : List Str, RepL K B (ns.map V.str) (ns.map D.str)
  | [] => .nil
  | n :: ns => .cons (.str n) (repL_strs ns)
theorem repL_of_ints : ∀ {vs : List V} {ns : List Int}, RepL K B vs (ns.map D.int) → vs = ns.map V.int
  | _, [], .nil => rfl
  | _, n :: ns, .cons h hs => by
    cases h
    rw [repL_of_ints hs]; rfl
theorem repL_of_strs : ∀ {vs : List V} {ns : List Str}, RepL K B vs (ns.map D.str) → vs = ns.map V.str
  | _, [], .nil => rfl
  | _, n :: ns, .cons h hs => by
    cases h
    rw [repL_of_strs hs]; rfl
theorem repL_of_bools : ∀ {vs : List V} {ns : List Bool}, RepL K B vs (ns.map D.bl) → vs = ns.map V.bl
  | _, [], .nil => rfl
  | _, n :: ns, .cons h hs => by
    cases h
    rw [repL_of_bools hs]; rfl
end

/-! ## 2. Slots, states, growth -/
abbrev Sl := List (Option O)
inductive Ro (α : Type) where
  | ok (a : α) (e : Sl) | ex (x : Exn) (e : Sl)
abbrev M (α : Type) := Sl → Option (Ro α)
@[inline] def M.pure {α : Type} (a : α) : M α := fun e => some (.ok a e)
@[inline] def M.bind {α β : Type} (m : M α) (f : α → M β) : M β := fun e => match m e with
  | none => none
  | some (.ex x e') => some (.ex x e')
  | some (.ok a e') => f a e'
@[inline] def M.stuck {α : Type} : M α := fun _ => none

/-- what an error's own fields hold -/
def XF (K : PySem.W.Frag) (B : Hp) (fs : List (Str × V)) (gs : List (Str × D)) : Prop := Paired (fun (p : Str × V) (q : Str × D) => p.1 = q.1 ∧ Rep K B p.2 q.2) fs gs
theorem XF.mono {K : PySem.W.Frag} {B B' : Hp} {fs : List (Str × V)} {gs : List (Str × D)} (h : XF K B fs gs) (e : Ex B B') : XF K B' fs gs := Paired.mapP h fun _ _ z => ⟨z.1, z.2.mono e⟩
/-- v stands for o; S: the addresses of its own -/
def RepO (K : PySem.W.Frag) (B H : Hp) (v : V) : O → (Addr → Prop) → Prop
  | .fr d, S => Rep K B v d ∧ ∀ a, ¬ S a
  | .lst ds, S => ∃ p xs, v = .ref p ∧ H p = some (.lst xs) ∧ RepL K B xs ds ∧ ∀ a, S a ↔ a = p
  | .dct ks xs, S => ∃ p kv, v = .ref p ∧ H p = some (.dK kv) ∧ kv.map (·.1) = ks ∧ RepL K B (kv.map (·.2)) xs ∧ ∀ a, S a ↔ a = p
  | .ins c ns xs, S => ∃ p C dx fs, v = .ref p ∧ H p = some (.ins C dx fs) ∧ ClsN K c C ∧ fs.map (·.1) = ns ∧ RepL K B (fs.map (·.2)) xs ∧ ∀ a, S a ↔ a = p
  | .exn a d x, S => v = .ref a ∧ (∃ fs, B d = some (.xd fs) ∧ XF K B fs x.fs) ∧ ∀ a, ¬ S a
/-- the addresses of one's own: live, not frozen -/
def Own (B H : Hp) (S : Addr → Prop) : Prop := ∀ a, S a → B a = none ∧ ∃ o, H a = some o

structure Rp (K : PySem.W.Frag) (B H : Hp) (σ : St) (e : Sl) (S : Nat → Addr → Prop) : Prop where
  len : σ.length = e.length
  ex : Ex B H
  rep : ∀ i o, e[i]? = some (some o) → ∃ v, σ[i]? = some (some v) ∧ RepO K B H v o (S i)
  dis : ∀ i j a, S i a → S j a → i = j
  own : ∀ i, Own B H (S i)
def tot (S : Nat → Addr → Prop) : Addr → Prop := fun a => ∃ i, S i a
/-- from (B, H) with the own addresses S to (B', H') with S' -/
structure Fr (B H : Hp) (S : Addr → Prop) (B' H' : Hp) (S' : Addr → Prop) : Prop where
  b : Ex B B'
  k : ∀ a o, H a = some o → ¬ S a → H' a = some o
  n : ∀ a, S' a → S a ∨ H a = none
  c : ∀ a o, B' a = some o → B a = some o ∨ S a ∨ H a = none
  a : ∀ a o, H a = some o → ∃ o', H' a = some o'
def noS : Addr → Prop := fun _ => False

theorem Fr.refl (B H : Hp) (S : Addr → Prop) : Fr B H S B H S := ⟨Ex.refl B, fun _ _ h _ => h, fun _ h => .inl h, fun _ _ h => .inl h, fun _ o h => ⟨o, h⟩⟩
theorem Fr.trans {B H B1 H1 B2 H2 : Hp} {S S1 S2 : Addr → Prop} (f : Fr B H S B1 H1 S1) (g : Fr B1 H1 S1 B2 H2 S2) : Fr B H S B2 H2 S2 := by
  have nn : ∀ a, H1 a = none → H a = none := fun a h => by
    cases q : H a with
    | none => rfl
    | some o => obtain ⟨o', e⟩ := f.a a o q; rw [h] at e; cases e
  refine ⟨f.b.trans g.b, fun a o h hs => ?_, fun a h => ?_, fun a o h => ?_, fun a o h => ?_⟩
  · refine g.k a o (f.k a o h hs) fun z => ?_
    rcases f.n a z with z | z
    · exact hs z
    · rw [h] at z; cases z
  · rcases g.n a h with z | z
    · exact f.n a z
    · exact .inr (nn a z)
  · rcases g.c a o h with z | z | z
    · exact f.c a o z
    · rcases f.n a z with y | y
      · exact .inr (.inl y)
      · exact .inr (.inr y)
    · exact .inr (.inr (nn a z))
  · obtain ⟨o', e⟩ := f.a a o h
    exact g.a a o' e
/-- what is free behind was free ahead -/
theorem Fr.back {B H B1 H1 : Hp} {S S1 : Addr → Prop} (f : Fr B H S B1 H1 S1) {a : Addr} (h : H1 a = none) : H a = none := by
  cases q : H a with
  | none => rfl
  | some o => obtain ⟨o', e⟩ := f.a a o q; rw [h] at e; cases e
/-- fewer own addresses behind, more ahead -/
theorem Fr.imp {B H B1 H1 : Hp} {S S1 S' S1' : Addr → Prop} (f : Fr B H S B1 H1 S1) (h : ∀ a, S a → S' a) (h1 : ∀ a, S1' a → S1 a) : Fr B H S' B1 H1 S1' :=
  ⟨f.b, fun a o e n => f.k a o e fun z => n (h a z), fun a z => (f.n a (h1 a z)).elim (fun y => .inl (h a y)) .inr, fun a o e => (f.c a o e).elim .inl fun y => .inr (y.elim (fun z => .inl (h a z)) .inr), f.a⟩

section
variable {K : PySem.W.Frag} {B B' H H' : Hp} {v : V} {o : O} {σ : St} {e : Sl} {S S' : Nat → Addr → Prop} {T T' : Addr → Prop}
theorem RepO.frame (h : RepO K B H v o T) (ho : Own B H T) (hd : ∀ a, T a → ¬ T' a) {T2 : Addr → Prop} (f : Fr B H T' B' H' T2) : RepO K B' H' v o T ∧ Own B' H' T ∧ ∀ a, T a → ¬ T2 a := by
  have hk : ∀ a o, T a → H a = some o → H' a = some o := fun a o ht e => f.k a o e (hd a ht)
  refine ⟨?_, fun a ht => ?_, fun a ht z => ?_⟩
  · cases o with
    | fr d => exact ⟨h.1.mono f.b, h.2⟩
    | lst ds =>
      obtain ⟨p, xs, e, hp, hr, hs⟩ := h
      exact ⟨p, xs, e, hk p _ ((hs p).mpr rfl) hp, hr.mono f.b, hs⟩
    | dct kvs =>
      obtain ⟨p, kv, e, hp, hk', hr, hs⟩ := h
      exact ⟨p, kv, e, hk p _ ((hs p).mpr rfl) hp, hk', hr.mono f.b, hs⟩
    | ins c ns xs =>
      obtain ⟨p, C, dx, fs, e, hp, hc, hk', hr, hs⟩ := h
      exact ⟨p, C, dx, fs, e, hk p _ ((hs p).mpr rfl) hp, hc, hk', hr.mono f.b, hs⟩
    | exn a d x =>
      obtain ⟨e, ⟨fs, hd, hx⟩, hs⟩ := h
      exact ⟨e, ⟨fs, f.b _ _ hd, hx.mono f.b⟩, hs⟩
  · obtain ⟨h1, o, h2⟩ := ho a ht
    refine ⟨?_, o, hk a o ht h2⟩
    cases q : B' a with
    | none => rfl
    | some u =>
      rcases f.c a u q with z | z | z
      · rw [h1] at z; cases z
      · exact absurd z (hd a ht)
      · rw [h2] at z; cases z
  · rcases f.n a z with y | y
    · exact hd a ht y
    · obtain ⟨_, o, h2⟩ := ho a ht
      rw [h2] at y; cases y
/-- what a one-way growth does: new objects only -/
structure Gr (B H B' H' : Hp) : Prop where
  b : Ex B B'
  h : Ex H H'
  s : Ex B' H'
  c : ∀ a o, B' a = some o → B a = some o ∨ H a = none
theorem Gr.refl (h : Ex B H) : Gr B H B H := ⟨Ex.refl B, Ex.refl H, h, fun _ _ e => .inl e⟩
theorem Gr.trans {B1 H1 B2 H2 : Hp} (f : Gr B H B1 H1) (g : Gr B1 H1 B2 H2) : Gr B H B2 H2 :=
  ⟨f.b.trans g.b, f.h.trans g.h, g.s, fun a o e => (g.c a o e).elim (fun z => f.c a o z) fun z => .inr (Evl.fresh_back f.h z)⟩
/-- a new frozen object -/
theorem Gr.new (h : Ex B H) {p : Addr} (hp : H p = none) (o : HO) : Gr B H (upd B p o) (upd H p o) := by
  have hb : B p = none := by
    cases q : B p with
    | none => rfl
    | some u => have := h p u q; rw [hp] at this; cases this
  refine ⟨Ex.new hb, Ex.new hp, fun a u e => ?_, fun a u e => ?_⟩
  · by_cases ha : a = p
    · subst ha; rw [upd_same] at e ⊢; exact e
    · rw [upd_ne ha] at e ⊢; exact h a u e
  · by_cases ha : a = p
    · subst ha; exact .inr hp
    · rw [upd_ne ha] at e; exact .inl e
/-- a new object of one's own -/
theorem Gr.own (h : Ex B H) {p : Addr} (hp : H p = none) (o : HO) : Gr B H B (upd H p o) :=
  ⟨Ex.refl B, Ex.new hp, h.trans (Ex.new hp), fun _ _ e => .inl e⟩
theorem Gr.fr (g : Gr B H B' H') (T : Addr → Prop) : Fr B H T B' H' T :=
  ⟨g.b, fun a o h _ => g.h a o h, fun _ h => .inl h, fun a o h => (g.c a o h).elim .inl fun z => .inr (.inr z), fun a o h => ⟨o, g.h a o h⟩⟩
theorem RepO.grow (h : RepO K B H v o T) (g : Gr B H B' H') : RepO K B' H' v o T := by
  cases o with
  | fr d => exact ⟨h.1.mono g.b, h.2⟩
  | lst ds =>
    obtain ⟨p, xs, e, hp, hr, hs⟩ := h
    exact ⟨p, xs, e, g.h p _ hp, hr.mono g.b, hs⟩
  | dct kvs =>
    obtain ⟨p, kv, e, hp, hk', hr, hs⟩ := h
    exact ⟨p, kv, e, g.h p _ hp, hk', hr.mono g.b, hs⟩
  | ins c ns xs =>
    obtain ⟨p, C, dx, fs, e, hp, hc, hk', hr, hs⟩ := h
    exact ⟨p, C, dx, fs, e, g.h p _ hp, hc, hk', hr.mono g.b, hs⟩
  | exn a d x =>
    obtain ⟨e, ⟨fs, hd, hx⟩, hs⟩ := h
    exact ⟨e, ⟨fs, g.b _ _ hd, hx.mono g.b⟩, hs⟩
theorem Own.grow (h : Own B H T) (g : Gr B H B' H') : Own B' H' T := fun a ha => by
  obtain ⟨h1, o, h2⟩ := h a ha
  refine ⟨?_, o, g.h a o h2⟩
  cases q : B' a with
  | none => rfl
  | some u =>
    rcases g.c a u q with z | z
    · rw [h1] at z; cases z
    · rw [h2] at z; cases z
theorem Rp.grow (h : Rp K B H σ e S) (g : Gr B H B' H') : Rp K B' H' σ e S :=
  ⟨h.len, g.s, fun i o ho => let ⟨v, h1, h2⟩ := h.rep i o ho; ⟨v, h1, h2.grow g⟩, h.dis, fun i => (h.own i).grow g⟩
/-- the same slots, the own addresses of some -/
theorem Rp.mem (h : Rp K B H σ e S) {i : Nat} (hi : e[i]? = some (some o)) : ∃ v, σ[i]? = some (some v) ∧ RepO K B H v o (S i) := h.rep i o hi

/-- a value beside the slots -/
structure Vl (K : PySem.W.Frag) (B H : Hp) (σ : St) (e : Sl) (S : Nat → Addr → Prop) (v : V) (o : O) (T : Addr → Prop) : Prop where
  rp : Rp K B H σ e S
  ro : RepO K B H v o T
  own : Own B H T
  dj : ∀ a, T a → ¬ tot S a
theorem own_no : Own B H noS := fun _ h => h.elim
theorem Vl.fr (h : Rp K B H σ e S) {d : D} (r : Rep K B v d) : Vl K B H σ e S v (.fr d) noS := ⟨h, ⟨r, fun _ z => z⟩, own_no, fun _ z => z.elim⟩

/-- v into slot i -/
theorem Vl.set (h : Vl K B H σ e S v o T) (i : Nat) : Rp K B H (σ.set i (some v)) (e.set i (some o)) (fun j => if j = i then (if i < e.length then T else noS) else S j) := by
  refine ⟨by rw [List.length_set, List.length_set, h.rp.len], h.rp.ex, fun j o' ho => ?_, fun j k a h1 h2 => ?_, fun j a h1 => ?_⟩
  · by_cases hj : j = i
    · subst hj
      have hl : j < e.length := by
        have := (List.getElem?_eq_some_iff.mp ho).1
        rwa [List.length_set] at this
      rw [List.getElem?_set_self hl] at ho
      cases ho
      refine ⟨v, by rw [List.getElem?_set_self (by rw [h.rp.len]; exact hl)], ?_⟩
      simp only [if_pos hl, if_true]
      exact h.ro
    · rw [List.getElem?_set_ne (Ne.symm hj)] at ho
      obtain ⟨w, h1, h2⟩ := h.rp.rep j o' ho
      exact ⟨w, by rw [List.getElem?_set_ne (Ne.symm hj)]; exact h1, by rw [if_neg hj]; exact h2⟩
  · by_cases hj : j = i <;> by_cases hk : k = i
    · rw [hj, hk]
    · simp only [hj, if_true] at h1
      rw [if_neg hk] at h2
      by_cases hl : i < e.length
      · rw [if_pos hl] at h1; exact absurd ⟨k, h2⟩ (h.dj a h1)
      · rw [if_neg hl] at h1; exact h1.elim
    · simp only [hk, if_true] at h2
      rw [if_neg hj] at h1
      by_cases hl : i < e.length
      · rw [if_pos hl] at h2; exact absurd ⟨j, h1⟩ (h.dj a h2)
      · rw [if_neg hl] at h2; exact h2.elim
    · rw [if_neg hj] at h1; rw [if_neg hk] at h2
      exact h.rp.dis j k a h1 h2
  · by_cases hj : j = i
    · simp only [hj, if_true] at h1
      by_cases hl : i < e.length
      · rw [if_pos hl] at h1; exact h.own a h1
      · rw [if_neg hl] at h1; exact h1.elim
    · rw [if_neg hj] at h1; exact h.rp.own j a h1
theorem tot_set {i : Nat} {n : Nat} {a : Addr} (h : tot (fun j => if j = i then (if i < n then T else noS) else S j) a) : T a ∨ tot S a := by
  obtain ⟨j, h⟩ := h
  by_cases hj : j = i
  · simp only [hj, if_true] at h
    by_cases hl : i < n
    · rw [if_pos hl] at h; exact .inl h
    · rw [if_neg hl] at h; exact h.elim
  · rw [if_neg hj] at h; exact .inr ⟨j, h⟩
/-- a slot forgotten -/
theorem Rp.forget (h : Rp K B H σ e S) (i : Nat) : Rp K B H σ (e.set i none) (fun j => if j = i then noS else S j) := by
  refine ⟨by rw [List.length_set]; exact h.len, h.ex, fun j o ho => ?_, fun j k a h1 h2 => ?_, fun j a h1 => ?_⟩
  · by_cases hj : j = i
    · subst hj
      by_cases hl : j < e.length
      · rw [List.getElem?_set_self hl] at ho; cases ho
      · rw [List.getElem?_eq_none (by rw [List.length_set]; omega)] at ho; cases ho
    · rw [List.getElem?_set_ne (Ne.symm hj)] at ho
      obtain ⟨w, h1, h2⟩ := h.rep j o ho
      exact ⟨w, h1, by rw [if_neg hj]; exact h2⟩
  · by_cases hj : j = i
    · rw [if_pos hj] at h1; exact h1.elim
    · by_cases hk : k = i
      · rw [if_pos hk] at h2; exact h2.elim
      · rw [if_neg hj] at h1; rw [if_neg hk] at h2
        exact h.dis j k a h1 h2
  · by_cases hj : j = i
    · rw [if_pos hj] at h1; exact h1.elim
    · rw [if_neg hj] at h1; exact h.own j a h1
theorem tot_forget {i : Nat} {a : Addr} (h : tot (fun j => if j = i then noS else S j) a) : tot S a := by
  obtain ⟨j, h⟩ := h
  by_cases hj : j = i
  · rw [if_pos hj] at h; exact h.elim
  · rw [if_neg hj] at h; exact ⟨j, h⟩

/-- what is one's own is frozen: the heap stays, more of it counts as frozen -/
theorem freeze (h : RepO K B H v o T) (hx : Ex B H) (ho : Own B H T) : ∃ B', Rep K B' v o.d ∧ Ex B B' ∧ Ex B' H ∧ (∀ a u, B' a = some u → B a = some u ∨ T a) ∧ ∀ a, ¬ T a → B' a = B a := by
  cases o with
  | fr d => exact ⟨B, h.1, Ex.refl B, hx, fun a u e => .inl e, fun _ _ => rfl⟩
  | exn a d x => exact ⟨B, .opq v, Ex.refl B, hx, fun a u e => .inl e, fun _ _ => rfl⟩
  | lst ds =>
    obtain ⟨p, xs, e, hp, hr, hs⟩ := h
    have hb : B p = none := (ho p ((hs p).mpr rfl)).1
    refine ⟨upd B p (.lst xs), ?_, Ex.new hb, fun a u q => ?_, fun a u q => ?_, fun a q => upd_ne fun z => q ((hs a).mpr z)⟩
    · subst e
      exact .lst upd_same (hr.mono (Ex.new hb))
    · by_cases ha : a = p
      · subst ha; rw [upd_same] at q; cases q; exact hp
      · rw [upd_ne ha] at q; exact hx a u q
    · by_cases ha : a = p
      · exact .inr ((hs a).mpr ha)
      · rw [upd_ne ha] at q; exact .inl q
  | dct ks ds =>
    obtain ⟨p, kv, e, hp, hk, hr, hs⟩ := h
    have hb : B p = none := (ho p ((hs p).mpr rfl)).1
    refine ⟨upd B p (.dK kv), ?_, Ex.new hb, fun a u q => ?_, fun a u q => ?_, fun a q => upd_ne fun z => q ((hs a).mpr z)⟩
    · subst e
      exact .dct upd_same hk (hr.mono (Ex.new hb))
    · by_cases ha : a = p
      · subst ha; rw [upd_same] at q; cases q; exact hp
      · rw [upd_ne ha] at q; exact hx a u q
    · by_cases ha : a = p
      · exact .inr ((hs a).mpr ha)
      · rw [upd_ne ha] at q; exact .inl q
  | ins c ns ds =>
    obtain ⟨p, C, dx, fs, e, hp, hc, hk, hr, hs⟩ := h
    have hb : B p = none := (ho p ((hs p).mpr rfl)).1
    refine ⟨upd B p (.ins C dx fs), ?_, Ex.new hb, fun a u q => ?_, fun a u q => ?_, fun a q => upd_ne fun z => q ((hs a).mpr z)⟩
    · subst e
      exact .ins upd_same hc hk (hr.mono (Ex.new hb))
    · by_cases ha : a = p
      · subst ha; rw [upd_same] at q; cases q; exact hp
      · rw [upd_ne ha] at q; exact hx a u q
    · by_cases ha : a = p
      · exact .inr ((hs a).mpr ha)
      · rw [upd_ne ha] at q; exact .inl q
theorem Rp.bgrow (h : Rp K B H σ e S) (hb : Ex B B') (hx : Ex B' H) (hc : ∀ i a, S i a → B' a = none) : Rp K B' H σ e S :=
  ⟨h.len, hx, fun i o ho => by
    obtain ⟨v, h1, h2⟩ := h.rep i o ho
    refine ⟨v, h1, ?_⟩
    cases o with
    | fr d => exact ⟨h2.1.mono hb, h2.2⟩
    | lst ds =>
      obtain ⟨p, xs, e, hp, hr, hs⟩ := h2
      exact ⟨p, xs, e, hp, hr.mono hb, hs⟩
    | dct kvs =>
      obtain ⟨p, kv, e, hp, hk, hr, hs⟩ := h2
      exact ⟨p, kv, e, hp, hk, hr.mono hb, hs⟩
    | ins c ns xs =>
      obtain ⟨p, C, dx, fs, e, hp, hc, hk, hr, hs⟩ := h2
      exact ⟨p, C, dx, fs, e, hp, hc, hk, hr.mono hb, hs⟩
    | exn a d x =>
      obtain ⟨e, ⟨fs, hd, hx⟩, hs⟩ := h2
      exact ⟨e, ⟨fs, hb _ _ hd, hx.mono hb⟩, hs⟩, h.dis, fun i a ha => ⟨hc i a ha, (h.own i a ha).2⟩⟩
/-- a value beside the slots frozen -/
theorem Vl.freeze (h : Vl K B H σ e S v o T) : ∃ B', Vl K B' H σ e S v (.fr o.d) noS ∧ Fr B H T B' H noS := by
  obtain ⟨B', r, hb, hx, hc, _⟩ := Dn.freeze h.ro h.rp.ex h.own
  refine ⟨B', .fr (h.rp.bgrow hb hx fun i a ha => ?_) r, ⟨hb, fun _ _ q _ => q, fun _ z => z.elim, fun a u q => (hc a u q).elim .inl fun z => .inr (.inl z), fun _ o q => ⟨o, q⟩⟩⟩
  cases q : B' a with
  | none => rfl
  | some u =>
    rcases hc a u q with z | z
    · rw [(h.rp.own i a ha).1] at z; cases z
    · exact absurd ⟨i, ha⟩ (h.dj a z)
/-- a slot frozen where it stands -/
theorem Rp.freeze (h : Rp K B H σ e S) {i : Nat} (hi : e[i]? = some (some o)) : ∃ B' v, σ[i]? = some (some v) ∧ Rep K B' v o.d ∧
    Rp K B' H σ (e.set i (some (.fr o.d))) (fun j => if j = i then noS else S j) ∧ Fr B H (tot S) B' H (tot (fun j => if j = i then noS else S j)) := by
  obtain ⟨v, hv, ro⟩ := h.rep i o hi
  obtain ⟨B', r, hb, hx, hc, _⟩ := Dn.freeze ro h.ex (h.own i)
  have hl : i < e.length := (List.getElem?_eq_some_iff.mp hi).1
  have hn : ∀ j a, j ≠ i → S j a → B' a = none := fun j a hj ha => by
    cases q : B' a with
    | none => rfl
    | some u =>
      rcases hc a u q with z | z
      · rw [(h.own j a ha).1] at z; cases z
      · exact absurd (h.dis j i a ha z) hj
  refine ⟨B', v, hv, r, ⟨by rw [List.length_set]; exact h.len, hx, fun j o' ho => ?_, fun j k a h1 h2 => ?_, fun j a h1 => ?_⟩, ⟨hb, fun _ _ q _ => q, fun a z => .inl (tot_forget z), fun a u q => (hc a u q).elim .inl fun z => .inr (.inl ⟨i, z⟩), fun _ o q => ⟨o, q⟩⟩⟩
  · by_cases hj : j = i
    · subst hj
      rw [List.getElem?_set_self hl] at ho
      cases ho
      exact ⟨v, hv, by simp only [if_true]; exact ⟨r, fun _ z => z⟩⟩
    · rw [List.getElem?_set_ne (Ne.symm hj)] at ho
      obtain ⟨w, h1, h2⟩ := h.rep j o' ho
      refine ⟨w, h1, ?_⟩
      rw [if_neg hj]
      cases o' with
      | fr d => exact ⟨h2.1.mono hb, h2.2⟩
      | lst ds =>
        obtain ⟨p, xs, e, hp, hr, hs⟩ := h2
        exact ⟨p, xs, e, hp, hr.mono hb, hs⟩
      | dct kvs =>
        obtain ⟨p, kv, e, hp, hk, hr, hs⟩ := h2
        exact ⟨p, kv, e, hp, hk, hr.mono hb, hs⟩
      | ins c ns xs =>
        obtain ⟨p, C, dx, fs, e, hp, hc, hk, hr, hs⟩ := h2
        exact ⟨p, C, dx, fs, e, hp, hc, hk, hr.mono hb, hs⟩
      | exn a d x =>
        obtain ⟨e, ⟨fs, hd, hx⟩, hs⟩ := h2
        exact ⟨e, ⟨fs, hb _ _ hd, hx.mono hb⟩, hs⟩
  · by_cases hj : j = i
    · rw [if_pos hj] at h1; exact h1.elim
    · by_cases hk : k = i
      · rw [if_pos hk] at h2; exact h2.elim
      · rw [if_neg hj] at h1; rw [if_neg hk] at h2
        exact h.dis j k a h1 h2
  · by_cases hj : j = i
    · rw [if_pos hj] at h1; exact h1.elim
    · rw [if_neg hj] at h1; exact ⟨hn j a hj h1, (h.own j a h1).2⟩
end
end Dn

namespace Dn
open PySem L2
open Evl (Ex)

/-! ## 3. What is computed -/
inductive Fl where
  | next | ret (o : O) | brk | cnt
/-- an operand: a slot that is only looked at, or a value -/
inductive P where
  | b (i : Nat) | v (f : M O)
def ops : List P → M (List D)
  | [] => M.pure []
  | .b i :: ps => fun e => match e[i]? with
    | some (some _) => (ops ps).bind (fun ds e' => match e'[i]? with
      | some (some o) => some (.ok (o.d :: ds) e')
      | _ => none) e
    | _ => none
  | .v f :: ps => f.bind fun o => (ops ps).bind fun ds => M.pure (o.d :: ds)
/-- an operation on operands -/
def ap (g : List D → Option O) (ps : List P) : M O := (ops ps).bind fun ds e => (g ds).map fun o => .ok o e
def eC (d : D) : M O := M.pure (.fr d)
/-- a name, its value kept from now on by others too -/
def eVar (i : Nat) : M O := fun e => match e[i]? with
  | some (some (.fr d)) => some (.ok (.fr d) e)
  | some (some (.lst ds)) => some (.ok (.fr (.lst ds)) (e.set i (some (.fr (.lst ds)))))
  | some (some (.dct ks ds)) => some (.ok (.fr (.dct ks ds)) (e.set i (some (.fr (.dct ks ds)))))
  | some (some (.ins c ns ds)) => some (.ok (.fr (.ins c ns ds)) (e.set i (some (.fr (.ins c ns ds)))))
  | _ => none
/-- a name that is not looked at again -/
def eMove (i : Nat) : M O := fun e => match e[i]? with
  | some (some (.fr d)) => some (.ok (.fr d) e)
  | some (some o) => some (.ok o (e.set i none))
  | _ => none
/-- a value that is kept by others -/
def eFz (f : M O) : M O := f.bind fun o => M.pure (.fr o.d)
def eIf (c : M Bool) (f g : M O) : M O := c.bind fun b => if b then f else g
def eAnd (f g : M O) : M O := f.bind fun o => match o with
  | .fr (.bl true) => g
  | .fr (.bl false) => M.pure (.fr (.bl false))
  | _ => M.stuck
def eOr (f g : M O) : M O := f.bind fun o => match o with
  | .fr (.bl false) => g
  | .fr (.bl true) => M.pure (.fr (.bl true))
  | _ => M.stuck
def eNot (f : M O) : M O := f.bind fun o => match o with
  | .fr (.bl b) => M.pure (.fr (.bl (!b)))
  | _ => M.stuck
/-- a value that is True or False, as a test -/
def tst (f : M O) : M Bool := f.bind fun o => match o with
  | .fr (.bl b) => M.pure b
  | _ => M.stuck
def cAnd (c d : M Bool) : M Bool := c.bind fun b => if b then d else M.pure false
def cOr (c d : M Bool) : M Bool := c.bind fun b => if b then M.pure true else d
def cNot (c : M Bool) : M Bool := c.bind fun b => M.pure (!b)
/-- the items of a display -/
def items : List (M O) → M (List D)
  | [] => M.pure []
  | f :: fs => f.bind fun o => (items fs).bind fun ds => M.pure (o.d :: ds)
def eTup (fs : List (M O)) : M O := (items fs).bind fun ds => M.pure (.fr (.tup ds))
def eLst (fs : List (M O)) : M O := (items fs).bind fun ds => M.pure (.lst ds)

def sNext : M Fl := M.pure .next
def sSeq (a b : M Fl) : M Fl := a.bind fun f => match f with
  | .next => b
  | .ret o => M.pure (.ret o)
  | .brk => M.pure .brk
  | .cnt => M.pure .cnt
def sIf (c : M Bool) (a b : M Fl) : M Fl := c.bind fun t => if t then a else b
def sRet (f : M O) : M Fl := f.bind fun o => M.pure (.ret o)
def sBrk : M Fl := M.pure .brk
def sCnt : M Fl := M.pure .cnt
def sDrop (f : M O) : M Fl := f.bind fun _ => M.pure .next
def sSet (i : Nat) (f : M O) : M Fl := f.bind fun o e => some (.ok .next (e.set i (some o)))

/-! ## 4. Judgements -/
def Post {α : Type} (r : Option (Ro α)) (ok : α → Sl → Prop) (ex : Exn → Sl → Prop) : Prop := match r with
  | none => False
  | some (.ok a e) => ok a e
  | some (.ex x e) => ex x e
theorem Post.bind {α β : Type} {m : M α} {f : α → M β} {e : Sl} {ok : β → Sl → Prop} {ex : Exn → Sl → Prop} (h : Post (M.bind m f e) ok ex) : Post (m e) (fun a e' => Post (f a e') ok ex) ex := by
  unfold M.bind at h
  cases q : m e with
  | none => rw [q] at h; exact h
  | some r => cases r <;> (rw [q] at h; exact h)
theorem Post.imp {α : Type} {r : Option (Ro α)} {ok ok' : α → Sl → Prop} {ex ex' : Exn → Sl → Prop} (h : Post r ok ex) (h1 : ∀ a e, ok a e → ok' a e) (h2 : ∀ x e, ex x e → ex' x e) : Post r ok' ex' := by
  cases r with
  | none => exact h
  | some r => cases r with
    | ok a e => exact h1 a e h
    | ex x e => exact h2 x e h

/-- the slots ks hold what they held -/
def Kp (ks : List Nat) (σ σ' : St) : Prop := ∀ i ∈ ks, σ'[i]? = σ[i]?
theorem Kp.refl (ks : List Nat) (σ : St) : Kp ks σ σ := fun _ _ => rfl
theorem Kp.trans {ks : List Nat} {σ σ1 σ2 : St} (a : Kp ks σ σ1) (b : Kp ks σ1 σ2) : Kp ks σ σ2 := fun i hi => (b i hi).trans (a i hi)
theorem Kp.set {ks : List Nat} {σ : St} {i : Nat} {v : Option V} (h : i ∉ ks) : Kp ks σ (σ.set i v) := fun j hj => by
  rw [List.getElem?_set_ne]
  intro e
  subst e
  exact h hj

section
variable (K : PySem.W.Frag) (mg : Str → Option Value) (W : WX)
def ExS (ks : List Nat) (B H : Hp) (S : Nat → Addr → Prop) (σ : St) (x : Exn) (e' : Sl) : Prop :=
  ∀ (C d : Addr) (fs : List (Str × V)) (σ' : St) (B' H' : Hp) (S' : Nat → Addr → Prop), mg x.cls = some (.ref C) → Rp K B' H' σ' e' S' → H' d = some (.xd fs) → XF K B' fs x.fs → H d = none → Kp ks σ σ' → Fr B H (tot S) B' H' (tot S') → W (.ref C) (some d) σ' H'
/-- an error out of an expression: the slots are as they were -/
def ExE (B H : Hp) (S : Nat → Addr → Prop) (σ : St) (x : Exn) (e' : Sl) : Prop :=
  ∀ (C d : Addr) (fs : List (Str × V)) (B' H' : Hp) (S' : Nat → Addr → Prop), mg x.cls = some (.ref C) → Rp K B' H' σ e' S' → H' d = some (.xd fs) → XF K B' fs x.fs → H d = none → Fr B H (tot S) B' H' (tot S') → W (.ref C) (some d) σ H'
def tE (f : M O) : TE := fun σ H Q => ∃ B e S, Rp K B H σ e S ∧ Post (f e)
  (fun o e' => ∀ v B' H' S' T, Vl K B' H' σ e' S' v o T → Fr B H (tot S) B' H' (fun a => T a ∨ tot S' a) → Q v H') (fun x e' => ExE K mg W B H S σ x e')
def tT (f : M Bool) : TT := fun σ H Q => ∃ B e S, Rp K B H σ e S ∧ Post (f e)
  (fun b e' => ∀ B' H' S', Rp K B' H' σ e' S' → Fr B H (tot S) B' H' (tot S') → Q b H') (fun x e' => ExE K mg W B H S σ x e')
def tP : P → TE
  | .b i => tVar i
  | .v f => tE K mg W f
def tPs : List P → TA
  | [] => tNil
  | p :: ps => tCons (tP K mg W p) (tPs ps)
def tS (ks : List Nat) (g : M Fl) : TS := fun D σ H => ∃ B e S, Rp K B H σ e S ∧ Post (g e)
  (fun fl e' => match fl with
    | .next => ∀ σ' B' H' S', Rp K B' H' σ' e' S' → Kp ks σ σ' → Fr B H (tot S) B' H' (tot S') → D.nx σ' H'
    | .brk => ∀ σ' B' H' S', Rp K B' H' σ' e' S' → Kp ks σ σ' → Fr B H (tot S) B' H' (tot S') → D.bk σ' H'
    | .cnt => ∀ σ' B' H' S', Rp K B' H' σ' e' S' → Kp ks σ σ' → Fr B H (tot S) B' H' (tot S') → D.ct σ' H'
    | .ret o => ∀ v σ' B' H' S' T, Vl K B' H' σ' e' S' v o T → Kp ks σ σ' → Fr B H (tot S) B' H' (fun a => T a ∨ tot S' a) → D.rt v H') (fun x e' => ExS K mg W ks B H S σ x e')
end

theorem pe_imp {X : Cx} {e : Expr} {t t' : TE} (h : PE X e t) (i : ∀ σ H Q, t' σ H Q → t σ H Q) : PE X e t' := ⟨fun pins s σ H Q I q => h.run pins s σ H Q I (i σ H Q q)⟩
theorem pt_imp {X : Cx} {e : Expr} {t t' : TT} (h : PT X e t) (i : ∀ σ H Q, t' σ H Q → t σ H Q) : PT X e t' := ⟨fun pins s σ H Q I q => h.run pins s σ H Q I (i σ H Q q)⟩
theorem pw_imp {X : Cx} {e : Expr} {t t' : TT} (h : PW X e t) (i : ∀ σ H Q, t' σ H Q → t σ H Q) : PW X e t' := ⟨fun w pins s σ H Q I q => h.run w pins s σ H Q I (i σ H Q q)⟩
theorem pa_imp {X : Cx} {e : List Expr} {t t' : TA} (h : PA X e t) (i : ∀ σ H Q, t' σ H Q → t σ H Q) : PA X e t' := ⟨fun p pins s σ H Q I q => h.run p pins s σ H Q I (i σ H Q q)⟩
theorem ps_imp {X : Cx} {e : Stmt} {t t' : TS} (h : PS X e t) (i : ∀ D σ H, t' D σ H → t D σ H) : PS X e t' := ⟨fun pins s σ H D I q => h.run pins s σ H D I (i D σ H q)⟩
theorem pss_imp {X : Cx} {e : List Stmt} {t t' : TS} (h : PSs X e t) (i : ∀ D σ H, t' D σ H → t D σ H) : PSs X e t' := ⟨fun pins s σ H D I q => h.run pins s σ H D I (i D σ H q)⟩

section
variable {K : PySem.W.Frag} {mg : Str → Option Value} {W : WX} {B B' H H' : Hp} {v x y : V} {o : O} {d : D} {σ : St} {e e' : Sl} {S S' : Nat → Addr → Prop} {T T' : Addr → Prop} {ks : List Nat}
theorem ExS.step {σ1 : St} {x : Exn} (h : ExS K mg W ks B H S σ x e') (k : Kp ks σ σ1) (f : Fr B H (tot S) B' H' (tot S')) : ExS K mg W ks B' H' S' σ1 x e' :=
  fun C d fs σ' B2 H2 S2 h1 h2 h3 h4 hn h5 h6 => h C d fs σ' B2 H2 S2 h1 h2 h3 h4 (f.back hn) (k.trans h5) (f.trans h6)

theorem ExE.step {x : Exn} (h : ExE K mg W B H S σ x e') (f : Fr B H (tot S) B' H' (tot S')) : ExE K mg W B' H' S' σ x e' :=
  fun C d fs B2 H2 S2 h1 h2 h3 h4 hn h6 => h C d fs B2 H2 S2 h1 h2 h3 h4 (f.back hn) (f.trans h6)
theorem ExS.toE {x : Exn} (h : ExS K mg W ks B H S σ x e') : ExE K mg W B H S σ x e' := fun C d fs B2 H2 S2 h1 h2 h3 h4 hn h6 => h C d fs σ B2 H2 S2 h1 h2 h3 h4 hn (Kp.refl _ _) h6
/-- a value that is read: its items are frozen -/
def Rd (K : PySem.W.Frag) (B H : Hp) (v : V) : D → Prop
  | .lst ds => ∃ a xs, v = .ref a ∧ H a = some (.lst xs) ∧ RepL K B xs ds
  | .dct ks ds => ∃ a kv, v = .ref a ∧ H a = some (.dK kv) ∧ kv.map (·.1) = ks ∧ RepL K B (kv.map (·.2)) ds
  | .ins c ns ds => ∃ a C dx fs, v = .ref a ∧ H a = some (.ins C dx fs) ∧ ClsN K c C ∧ fs.map (·.1) = ns ∧ RepL K B (fs.map (·.2)) ds
  | d => Rep K B v d
theorem Rep.rd (h : Rep K B v d) (hx : Ex B H) : Rd K B H v d := by
  cases h with
  | lst h hs => exact ⟨_, _, rfl, hx _ _ h, hs⟩
  | non => exact .non
  | bl b => exact .bl b
  | int i => exact .int i
  | str x => exact .str x
  | tup h hs => exact .tup h hs
  | scr h => exact .scr h
  | opq v => exact .opq v
  | dct h hk hs => exact ⟨_, _, rfl, hx _ _ h, hk, hs⟩
  | ins h hc hk hs => exact ⟨_, _, _, _, rfl, hx _ _ h, hc, hk, hs⟩
theorem RepO.rd (h : RepO K B H v o T) (hx : Ex B H) : Rd K B H v o.d := by
  cases o with
  | fr d => exact h.1.rd hx
  | lst ds =>
    obtain ⟨p, xs, e, hp, hr, hs⟩ := h
    exact ⟨p, xs, e, hp, hr⟩
  | dct ks xs =>
    obtain ⟨p, kv, e, hp, hk, hr, hs⟩ := h
    exact ⟨p, kv, e, hp, hk, hr⟩
  | ins c ns xs =>
    obtain ⟨p, C, dx, fs, e, hp, hc, hk, hr, hs⟩ := h
    exact ⟨p, C, dx, fs, e, hp, hc, hk, hr⟩
  | exn a d x => exact .opq v
theorem Rd.rep (h : Rd K B H v d) (hx : Ex B H) : Rep K H v d := by
  cases d with
  | lst ds =>
    obtain ⟨a, xs, rfl, h1, h2⟩ := h
    exact .lst h1 (h2.mono hx)
  | dct ks ds =>
    obtain ⟨a, kv, rfl, h1, hk, h2⟩ := h
    exact .dct h1 hk (h2.mono hx)
  | ins c ns ds =>
    obtain ⟨a, C, dx, fs, rfl, h1, hc, hk, h2⟩ := h
    exact .ins h1 hc hk (h2.mono hx)
  | non => exact Rep.mono hx h
  | bl b => exact Rep.mono hx h
  | int i => exact Rep.mono hx h
  | str x => exact Rep.mono hx h
  | tup ds => exact Rep.mono hx h
  | scr ns => exact Rep.mono hx h
  | opq => exact .opq v
theorem Rd.grow (h : Rd K B H v d) (g : Gr B H B' H') : Rd K B' H' v d := by
  cases d with
  | lst ds =>
    obtain ⟨a, xs, rfl, h1, h2⟩ := h
    exact ⟨a, xs, rfl, g.h _ _ h1, h2.mono g.b⟩
  | dct ks ds =>
    obtain ⟨a, kv, rfl, h1, hk, h2⟩ := h
    exact ⟨a, kv, rfl, g.h _ _ h1, hk, h2.mono g.b⟩
  | ins c ns ds =>
    obtain ⟨a, C, dx, fs, rfl, h1, hc, hk, h2⟩ := h
    exact ⟨a, C, dx, fs, rfl, g.h _ _ h1, hc, hk, h2.mono g.b⟩
  | non => exact Rep.mono g.b h
  | bl b => exact Rep.mono g.b h
  | int i => exact Rep.mono g.b h
  | str x => exact Rep.mono g.b h
  | tup ds => exact Rep.mono g.b h
  | scr ns => exact Rep.mono g.b h
  | opq => exact .opq v
inductive RdL (K : PySem.W.Frag) (B H : Hp) : List V → List D → Prop
  | nil : RdL K B H [] []
  | cons {v : V} {vs : List V} {d : D} {ds : List D} : Rd K B H v d → RdL K B H vs ds → RdL K B H (v :: vs) (d :: ds)

/-- the operands, from the left -/
theorem ops_run : ∀ (ps : List P) {B H : Hp} {e : Sl} {S : Nat → Addr → Prop} (Q : List V → Hp → Prop), Rp K B H σ e S →
    Post (ops ps e) (fun ds e' => ∀ vs B' H' S', Rp K B' H' σ e' S' → RdL K B' H' vs ds → Fr B H (tot S) B' H' (tot S') → Q vs H') (fun x e' => ExE K mg W B H S σ x e') → tPs K mg W ps σ H Q
  | [], B, H, e, S, Q, r, h => h [] B H S r .nil (Fr.refl _ _ _)
  | .b i :: ps, B, H, e, S, Q, r, h => by
    unfold ops at h
    cases q : e[i]? with
    | none => rw [q] at h; exact h.elim
    | some u =>
      cases u with
      | none => rw [q] at h; exact h.elim
      | some o0 =>
        rw [q] at h
        obtain ⟨v, hv, _⟩ := r.rep i o0 q
        refine ⟨v, hv, ops_run ps _ r (h.bind.imp (fun ds e' h vs B' H' S' r' rl f => ?_) fun _ _ z => z)⟩
        cases q' : e'[i]? with
        | none => rw [q'] at h; exact h.elim
        | some u' =>
          cases u' with
          | none => rw [q'] at h; exact h.elim
          | some o =>
            rw [q'] at h
            obtain ⟨v', hv', ro⟩ := r'.rep i o q'
            rw [hv] at hv'; cases hv'
            exact h _ B' H' S' r' (.cons (ro.rd r'.ex) rl) f
  | .v f :: ps, B, H, e, S, Q, r, h => by
    unfold ops at h
    refine ⟨B, e, S, r, h.bind.imp (fun o e1 h v B1 H1 S1 T vl f1 => ?_) fun _ _ z => z⟩
    have f1' : Fr B H (tot S) B1 H1 (tot S1) := f1.imp (fun _ z => z) fun _ z => .inr z
    refine ops_run ps _ vl.rp (h.bind.imp (fun ds e' h vs B' H' S' r' rl f2 => ?_) fun x e' z => z.step f1')
    have h' : ∀ vs B' H' S', Rp K B' H' σ e' S' → RdL K B' H' vs (o.d :: ds) → Fr B H (tot S) B' H' (tot S') → Q vs H' := h
    obtain ⟨ro, _, _⟩ := vl.ro.frame vl.own vl.dj f2
    exact h' _ B' H' S' r' (.cons (ro.rd r'.ex) rl) (f1'.trans f2)

/-- what an operation gives: the heap grows, the result may be a new list of one's own -/
def Giv (K : PySem.W.Frag) (B H : Hp) (o : O) (Q : VK) : Prop := ∀ v B' H' T, Gr B H B' H' → RepO K B' H' v o T → (∀ a, T a → H a = none) → Own B' H' T → Q v H'
theorem Giv.fr {Q : VK} (h : Giv K B H (.fr d) Q) (hx : Ex B H) (r : Rep K B v d) : Q v H := h v B H noS (Gr.refl hx) ⟨r, fun _ z => z⟩ (fun _ z => z.elim) own_no
theorem Giv.newL {Q : VK} {xs : List V} {ds : List D} (h : Giv K B H (.lst ds) Q) (hx : Ex B H) (r : RepL K B xs ds) {p : Addr} (hp : H p = none) : Q (.ref p) (upd H p (.lst xs)) := by
  have g := Gr.own hx hp (.lst xs)
  refine h (.ref p) B _ (fun a => a = p) g ⟨p, xs, rfl, upd_same, r, fun a => Iff.rfl⟩ (fun a e => by rw [e]; exact hp) fun a e => ?_
  subst e
  refine ⟨?_, _, upd_same⟩
  cases q : B a with
  | none => rfl
  | some u => have := hx a u q; rw [hp] at this; cases this
theorem Giv.newT {Q : VK} {xs : List V} {ds : List D} (h : Giv K B H (.fr (.tup ds)) Q) (hx : Ex B H) (r : RepL K B xs ds) {p : Addr} (hp : H p = none) : Q (.ref p) (upd H p (.tup xs)) := by
  have g := Gr.new hx hp (.tup xs)
  exact h (.ref p) (upd B p (.tup xs)) _ noS g ⟨.tup (Evl.st_of upd_same) (r.mono g.b), fun _ z => z⟩ (fun _ z => z.elim) own_no
/-- a list that is new where it is kept by others at once -/
theorem Giv.newF {Q : VK} {xs : List V} {ds : List D} (h : Giv K B H (.fr (.lst ds)) Q) (hx : Ex B H) (r : RepL K B xs ds) {p : Addr} (hp : H p = none) : Q (.ref p) (upd H p (.lst xs)) := by
  have g := Gr.new hx hp (.lst xs)
  exact h (.ref p) (upd B p (.lst xs)) _ noS g ⟨.lst upd_same (r.mono g.b), fun _ z => z⟩ (fun _ z => z.elim) own_no
/-- an operation's outcome beside the slots -/
theorem Rp.giv {Q : VK} (r : Rp K B H σ e S) (h : ∀ v B' H' S' T, Vl K B' H' σ e S' v o T → Fr B H (tot S) B' H' (fun a => T a ∨ tot S' a) → Q v H') : Giv K B H o Q :=
  fun v B' H' T g ro hn ow => h v B' H' S T ⟨r.grow g, ro, ow, fun a ha ⟨i, hi⟩ => by
    obtain ⟨_, u, hu⟩ := r.own i a hi
    rw [hn a ha] at hu; cases hu⟩ ⟨g.b, fun a o q _ => g.h a o q, fun a z => z.elim (fun z => .inr (hn a z)) .inl, fun a u q => (g.c a u q).elim .inl fun z => .inr (.inr z), fun a u q => ⟨u, g.h a u q⟩⟩

def Snd2 (K : PySem.W.Frag) (r : R2) (g : List D → Option O) : Prop := ∀ (B H : Hp) (x y : V) (a b : D) (o : O), Ex B H → Rd K B H x a → Rd K B H y b → g [a, b] = some o → ∀ Q : VK, Giv K B H o Q → r x y H Q
def Snd1 (K : PySem.W.Frag) (r : V → Hp → VK → Prop) (g : List D → Option O) : Prop := ∀ (B H : Hp) (x : V) (a : D) (o : O), Ex B H → Rd K B H x a → g [a] = some o → ∀ Q : VK, Giv K B H o Q → r x H Q
def SndN (K : PySem.W.Frag) (r : List V → Hp → VK → Prop) (g : List D → Option O) : Prop := ∀ (B H : Hp) (vs : List V) (ds : List D) (o : O), Ex B H → RdL K B H vs ds → g ds = some o → ∀ Q : VK, Giv K B H o Q → r vs H Q

/-- the end of an operation's reading -/
theorem ap_end {g : List D → Option O} {ds : List D} {okP : O → Sl → Prop} {exP : Exn → Sl → Prop} (h : Post ((g ds).map fun o => Ro.ok o e') okP exP) : ∃ o, g ds = some o ∧ okP o e' := by
  cases q : g ds with
  | none => rw [q] at h; exact h.elim
  | some o => rw [q] at h; exact ⟨o, rfl, h⟩
theorem ap2_run {r : R2} {g : List D → Option O} {p q : P} (hs : Snd2 K r g) (Q : VK) (h : tE K mg W (ap g [p, q]) σ H Q) : tOp r (tP K mg W p) (tP K mg W q) σ H Q := by
  obtain ⟨B, e, S, rp, h⟩ := h
  have key := ops_run (K := K) (mg := mg) (W := W) (σ := σ) [p, q] (fun vs H' => ∀ x y, vs = [x, y] → r x y H' Q) rp (h.bind.imp (fun ds e' h vs B' H' S' r' rl f x y ev => ?_) fun _ _ z => z)
  · show tP K mg W p σ H fun x H1 => tP K mg W q σ H1 fun y H2 => r x y H2 Q
    have key' : tP K mg W p σ H fun x H1 => tP K mg W q σ H1 fun y H2 => ∀ x' y', [x, y] = [x', y'] → r x' y' H2 Q := key
    have mono : ∀ (p : P) (σ : St) (H : Hp) (Q Q' : VK), (∀ v H, Q v H → Q' v H) → tP K mg W p σ H Q → tP K mg W p σ H Q' := fun p σ H Q Q' hq t => by
      cases p with
      | b i => obtain ⟨v, e, q⟩ := t; exact ⟨v, e, hq _ _ q⟩
      | v f => obtain ⟨B, e, S, r, t⟩ := t; exact ⟨B, e, S, r, t.imp (fun o e' h v B' H' S' T vl f => hq _ _ (h v B' H' S' T vl f)) fun _ _ z => z⟩
    exact mono _ _ _ _ _ (fun x H1 t => mono _ _ _ _ _ (fun y H2 t => t x y rfl) t) key'
  · subst ev
    obtain ⟨o, ho, h2⟩ := ap_end h
    cases rl with
    | cons h1 rl =>
      cases rl with
      | cons k2 rl =>
        cases rl
        exact hs B' H' x y _ _ o r'.ex h1 k2 ho Q (r'.giv fun v B2 H2 S2 T vl f2 => h2 v B2 H2 S2 T vl (f.trans f2))
theorem ap1_run {r : V → Hp → VK → Prop} {g : List D → Option O} {p : P} (hs : Snd1 K r g) (Q : VK) (h : tE K mg W (ap g [p]) σ H Q) : tP K mg W p σ H fun x H1 => r x H1 Q := by
  obtain ⟨B, e, S, rp, h⟩ := h
  have key := ops_run (K := K) (mg := mg) (W := W) (σ := σ) [p] (fun vs H' => ∀ x, vs = [x] → r x H' Q) rp (h.bind.imp (fun ds e' h vs B' H' S' r' rl f x ev => ?_) fun _ _ z => z)
  · have key' : tP K mg W p σ H fun x H1 => ∀ x', [x] = [x'] → r x' H1 Q := key
    have mono : ∀ (p : P) (σ : St) (H : Hp) (Q Q' : VK), (∀ v H, Q v H → Q' v H) → tP K mg W p σ H Q → tP K mg W p σ H Q' := fun p σ H Q Q' hq t => by
      cases p with
      | b i => obtain ⟨v, e, q⟩ := t; exact ⟨v, e, hq _ _ q⟩
      | v f => obtain ⟨B, e, S, r, t⟩ := t; exact ⟨B, e, S, r, t.imp (fun o e' h v B' H' S' T vl f => hq _ _ (h v B' H' S' T vl f)) fun _ _ z => z⟩
    exact mono _ _ _ _ _ (fun x H1 t => t x rfl) key'
  · subst ev
    obtain ⟨o, ho, h2⟩ := ap_end h
    cases rl with
    | cons h1 rl =>
      cases rl
      exact hs B' H' x _ o r'.ex h1 ho Q (r'.giv fun v B2 H2 S2 T vl f2 => h2 v B2 H2 S2 T vl (f.trans f2))
theorem apN_run {r : List V → Hp → VK → Prop} {g : List D → Option O} {ps : List P} (hs : SndN K r g) (Q : VK) (h : tE K mg W (ap g ps) σ H Q) : tPs K mg W ps σ H fun vs H1 => r vs H1 Q := by
  obtain ⟨B, e, S, rp, h⟩ := h
  refine ops_run (K := K) (mg := mg) (W := W) (σ := σ) ps _ rp (h.bind.imp (fun ds e' h vs B' H' S' r' rl f => ?_) fun _ _ z => z)
  obtain ⟨o, ho, h2⟩ := ap_end h
  exact hs B' H' vs _ o r'.ex rl ho Q (r'.giv fun v B2 H2 S2 T vl f2 => h2 v B2 H2 S2 T vl (f.trans f2))
end

/-! ## 5. Rules: names, constants, operations, tests -/
section
variable {X : Cx} {W : WX} {e a b c : Expr} {pos : Pos} {f g : M O} {p q : P} {op : Operator}
theorem d_var {i : Nat} {x : Str} (hv : PE X (.Name x pos) (tVar i)) : PE X (.Name x pos) (tE X.K X.mg W (eVar i)) := pe_imp hv fun σ H Q h => by
  obtain ⟨B, e, S, r, h⟩ := h
  unfold eVar at h
  cases q : e[i]? with
  | none => rw [q] at h; exact h.elim
  | some u =>
    cases u with
    | none => rw [q] at h; exact h.elim
    | some o =>
      rw [q] at h
      cases o with
      | fr d =>
        obtain ⟨v, hv, ro⟩ := r.rep i _ q
        exact ⟨v, hv, h v B H S noS (.fr r ro.1) ((Fr.refl _ _ _).imp (fun _ z => z) fun a z => z.elim (fun z => z.elim) id)⟩
      | lst ds =>
        obtain ⟨B', v, hv, rv, r', f⟩ := r.freeze q
        exact ⟨v, hv, h v B' H _ noS (.fr r' rv) (f.imp (fun _ z => z) fun a z => z.elim (fun z => z.elim) id)⟩
      | dct ks ds =>
        obtain ⟨B', v, hv, rv, r', f⟩ := r.freeze q
        exact ⟨v, hv, h v B' H _ noS (.fr r' rv) (f.imp (fun _ z => z) fun a z => z.elim (fun z => z.elim) id)⟩
      | ins c ns ds =>
        obtain ⟨B', v, hv, rv, r', f⟩ := r.freeze q
        exact ⟨v, hv, h v B' H _ noS (.fr r' rv) (f.imp (fun _ z => z) fun a z => z.elim (fun z => z.elim) id)⟩
      | exn _ _ _ => exact h.elim
theorem d_move {i : Nat} {x : Str} (hv : PE X (.Name x pos) (tVar i)) : PE X (.Name x pos) (tE X.K X.mg W (eMove i)) := pe_imp hv fun σ H Q h => by
  obtain ⟨B, e, S, r, h⟩ := h
  unfold eMove at h
  cases q : e[i]? with
  | none => rw [q] at h; exact h.elim
  | some u =>
    cases u with
    | none => rw [q] at h; exact h.elim
    | some o =>
      rw [q] at h
      obtain ⟨v, hv, ro⟩ := r.rep i _ q
      cases o with
      | fr d => exact ⟨v, hv, h v B H S noS (.fr r ro.1) ((Fr.refl _ _ _).imp (fun _ z => z) fun a z => z.elim (fun z => z.elim) id)⟩
      | lst ds =>
        refine ⟨v, hv, h v B H (fun j => if j = i then noS else S j) (S i) ⟨r.forget i, ro, r.own i, fun a h1 h2 => ?_⟩ ((Fr.refl _ _ _).imp (fun _ z => z) fun a z => z.elim (fun z => ⟨i, z⟩) tot_forget)⟩
        obtain ⟨j, h2⟩ := h2
        by_cases hj : j = i
        · rw [if_pos hj] at h2; exact h2
        · rw [if_neg hj] at h2; exact hj (r.dis j i a h2 h1)
      | dct ds =>
        refine ⟨v, hv, h v B H (fun j => if j = i then noS else S j) (S i) ⟨r.forget i, ro, r.own i, fun a h1 h2 => ?_⟩ ((Fr.refl _ _ _).imp (fun _ z => z) fun a z => z.elim (fun z => ⟨i, z⟩) tot_forget)⟩
        obtain ⟨j, h2⟩ := h2
        by_cases hj : j = i
        · rw [if_pos hj] at h2; exact h2
        · rw [if_neg hj] at h2; exact hj (r.dis j i a h2 h1)
      | ins c ns ds =>
        refine ⟨v, hv, h v B H (fun j => if j = i then noS else S j) (S i) ⟨r.forget i, ro, r.own i, fun a h1 h2 => ?_⟩ ((Fr.refl _ _ _).imp (fun _ z => z) fun a z => z.elim (fun z => ⟨i, z⟩) tot_forget)⟩
        obtain ⟨j, h2⟩ := h2
        by_cases hj : j = i
        · rw [if_pos hj] at h2; exact h2
        · rw [if_neg hj] at h2; exact hj (r.dis j i a h2 h1)
      | exn _ _ _ =>
        refine ⟨v, hv, h v B H (fun j => if j = i then noS else S j) (S i) ⟨r.forget i, ro, r.own i, fun a h1 h2 => ?_⟩ ((Fr.refl _ _ _).imp (fun _ z => z) fun a z => z.elim (fun z => ⟨i, z⟩) tot_forget)⟩
        obtain ⟨j, h2⟩ := h2
        by_cases hj : j = i
        · rw [if_pos hj] at h2; exact h2
        · rw [if_neg hj] at h2; exact hj (r.dis j i a h2 h1)
/-- a written value, a constant of the module: v holds d whatever the heap -/
theorem d_c {v : V} {d : D} (hv : PE X e (tC v)) (hr : ∀ B, Rep X.K B v d) : PE X e (tE X.K X.mg W (eC d)) := pe_imp hv fun σ H Q h => by
  obtain ⟨B, e, S, r, h⟩ := h
  exact h v B H S noS (.fr r (hr B)) ((Fr.refl _ _ _).imp (fun _ z => z) fun a z => z.elim (fun z => z.elim) id)
theorem d_int {i j} : PE X (.Constant (.int i) j pos) (tE X.K X.mg W (eC (.int i))) := d_c pe_int fun _ => .int _
theorem d_bl {b j} : PE X (.Constant (.bool b) j pos) (tE X.K X.mg W (eC (.bl b))) := d_c pe_bl fun _ => .bl _
theorem d_non {j} : PE X (.Constant .none j pos) (tE X.K X.mg W (eC .non)) := d_c pe_non fun _ => .non
theorem d_str {x j} : PE X (.Constant (.str x) j pos) (tE X.K X.mg W (eC (.str x))) := d_c pe_str fun _ => .str _
theorem d_fz (h : PE X e (tE X.K X.mg W f)) : PE X e (tE X.K X.mg W (eFz f)) := pe_imp h fun σ H Q h => by
  obtain ⟨B, e, S, r, h⟩ := h
  refine ⟨B, e, S, r, h.bind.imp (fun o e' h v B' H' S' T vl f => ?_) fun _ _ z => z⟩
  obtain ⟨B2, vl2, f2⟩ := vl.freeze
  refine h v B2 H' S' noS vl2 (f.trans ⟨f2.b, fun a o q _ => q, fun a z => z.elim (fun z => z.elim) fun z => .inl (.inr z), fun a u q => (f2.c a u q).elim .inl fun z => .inr (z.elim (fun z => .inl (.inl z)) .inr), fun a o q => ⟨o, q⟩⟩)
/-- operands -/
theorem p_b {i : Nat} {x : Str} (hv : PE X (.Name x pos) (tVar i)) : PE X (.Name x pos) (tP X.K X.mg W (.b i)) := hv
theorem p_v (h : PE X e (tE X.K X.mg W f)) : PE X e (tP X.K X.mg W (.v f)) := h
theorem pa_n : PA X [] (tPs X.K X.mg W []) := pa_nil
theorem pa_c {es : List Expr} {ps : List P} (h : PE X e (tP X.K X.mg W p)) (hr : PA X es (tPs X.K X.mg W ps)) (hs : starEach (e :: es) X.env = (false, eval e X.env) :: starEach es X.env := by rfl) : PA X (e :: es) (tPs X.K X.mg W (p :: ps)) := pa_cons h hr hs

theorem d_op {r : R2} {G : List D → Option O} (ho : OpR X (binaryOp op) r) (hs : Snd2 X.K r G) (ha : PE X a (tP X.K X.mg W p)) (hb : PE X b (tP X.K X.mg W q)) : PE X (.BinOp a op b pos) (tE X.K X.mg W (ap G [p, q])) :=
  pe_imp (pe_op ho ha hb) fun _ _ _ h => ap2_run hs _ h
theorem d_un {r : V → Hp → VK → Prop} {G : List D → Option O} {op : UnaryOp} (ho : UnR X (unaryOp op) r) (hs : Snd1 X.K r G) (ha : PE X a (tP X.K X.mg W p)) : PE X (.UnaryOp op a pos) (tE X.K X.mg W (ap G [p])) :=
  pe_imp (pe_un ho ha) fun _ _ _ h => ap1_run hs _ h
theorem d_cmp {r : R2} {G : List D → Option O} {op : CmpOp} (ho : OpR X (compareOp op) r) (hs : Snd2 X.K r G) (ha : PE X a (tP X.K X.mg W p)) (hb : PE X b (tP X.K X.mg W q)) (hm : behindInMarks op b = false) : PE X (.Compare a [op] [b] pos) (tE X.K X.mg W (ap G [p, q])) :=
  pe_imp (pe_cmpR ho ha hb hm) fun _ _ _ h => ap2_run hs _ h
theorem d_ix {r : R2} {G : List D → Option O} (ho : IxR X r) (hs : Snd2 X.K r G) (ha : PE X a (tP X.K X.mg W p)) (hb : PE X b (tP X.K X.mg W q)) (hp : PlainIx b) : PE X (.Subscript a b pos) (tE X.K X.mg W (ap G [p, q])) :=
  pe_imp (pe_ix ho ha hb hp) fun _ _ _ h => ap2_run hs _ h
theorem d_cb {r : List V → Hp → VK → Prop} {G : List D → Option O} {x : Str} {id : String} {p1 : Pos} {e : Expr} {es : List Expr} {ps : List P} (hc : CallR X (.builtin id) r) (hs : SndN X.K r G) (hg : Gl X x) (hm : X.mg x = none) (hv : bootBuiltins x = some (.builtin id)) (ha : PA X (e :: es) (tPs X.K X.mg W ps)) (hn : x ≠ "__name__" := by decide) (hdb : (x == ("__debug__" : Str)) = false := by decide)
    (he : starEach (e :: es) X.env = (false, eval e X.env) :: starEach es X.env := by rfl) (hpl : (backTo pos (starEach es X.env)).any (·.1) = false := by rfl) : PE X (.Call (.Name x p1) (e :: es) [] pos) (tE X.K X.mg W (ap G ps)) :=
  pe_imp (pe_callB hc hg hm hv ha hn hdb he hpl) fun _ _ _ h => apN_run hs _ h
theorem d_ct {r : List V → Hp → VK → Prop} {G : List D → Option O} {x : Str} {id : String} {p1 : Pos} {e : Expr} {es : List Expr} {ps : List P} (hc : CallR X (.type id) r) (hs : SndN X.K r G) (hg : Gl X x) (hm : X.mg x = none) (hv : bootBuiltins x = some (.type id)) (ha : PA X (e :: es) (tPs X.K X.mg W ps)) (hn : x ≠ "__name__" := by decide) (hdb : (x == ("__debug__" : Str)) = false := by decide)
    (he : starEach (e :: es) X.env = (false, eval e X.env) :: starEach es X.env := by rfl) (hpl : (backTo pos (starEach es X.env)).any (·.1) = false := by rfl) : PE X (.Call (.Name x p1) (e :: es) [] pos) (tE X.K X.mg W (ap G ps)) :=
  pe_imp (pe_callTy hc hg hm hv ha hn hdb he hpl) fun _ _ _ h => apN_run hs _ h

/-! ### tests -/
theorem c_tst (h : PE X e (tE X.K X.mg W f)) (he : ∀ whole, isTrue e X.env whole = (do let v ← whole; standAt e.pos; holding [v] (truthy v)) := by intro _; rfl) : PT X e (tT X.K X.mg W (tst f)) := pt_imp (pt_val h he) fun σ H Q h => by
  obtain ⟨B, e, S, r, h⟩ := h
  refine ⟨B, e, S, r, h.bind.imp (fun o e' h v B' H' S' T vl f => ?_) fun _ _ z => z⟩
  cases o with
  | lst ds => exact h.elim
  | dct _ _ => exact h.elim
  | ins _ _ _ => exact h.elim
  | exn _ _ _ => exact h.elim
  | fr d =>
    cases d with
    | bl b =>
      have hr := vl.ro.1
      cases hr
      exact ⟨b, rfl, h B' H' S' vl.rp (f.imp (fun _ z => z) fun _ z => .inr z)⟩
    | _ => exact h.elim
theorem c_cmp {r : R2} {G : List D → Option O} {op : CmpOp} (ho : OpR X (compareOp op) r) (hs : Snd2 X.K r G) (ha : PE X a (tP X.K X.mg W p)) (hb : PE X b (tP X.K X.mg W q)) (hm : behindInMarks op b = false) : PT X (.Compare a [op] [b] pos) (tT X.K X.mg W (tst (ap G [p, q]))) :=
  pt_imp (pt_cmpR ho ha hb hm) fun σ H Q h => by
    obtain ⟨B, e, S, r, h⟩ := h
    refine ap2_run hs (mg := X.mg) (W := W) _ ⟨B, e, S, r, h.bind.imp (fun o e' h v B' H' S' T vl f => ?_) fun _ _ z => z⟩
    cases o with
    | lst ds => exact h.elim
    | dct _ _ => exact h.elim
    | ins _ _ _ => exact h.elim
    | exn _ _ _ => exact h.elim
    | fr d =>
      cases d with
      | bl b =>
        have hr := vl.ro.1
        cases hr
        exact ⟨b, rfl, h B' H' S' vl.rp (f.imp (fun _ z => z) fun _ z => .inr z)⟩
      | _ => exact h.elim
theorem c_not {t : M Bool} (h : PT X e (tT X.K X.mg W t)) : PT X (.UnaryOp .Not e pos) (tT X.K X.mg W (cNot t)) := pt_imp (pt_not h) fun σ H Q h => by
  obtain ⟨B, e, S, r, h⟩ := h
  exact ⟨B, e, S, r, h.bind.imp (fun b e' h B' H' S' r' f => h B' H' S' r' f) fun _ _ z => z⟩
theorem w_one {t : M Bool} {bop : BoolOp} (h : PT X e (tT X.K X.mg W t)) : PW X (.BoolOp bop [e] pos) (tT X.K X.mg W t) := by
  cases bop with
  | And => exact pw_and1 h
  | Or => exact pw_or1 h
theorem w_and {t u : M Bool} {rest : List Expr} (ha : PT X a (tT X.K X.mg W t)) (hb : PW X (.BoolOp .And (b :: rest) pos) (tT X.K X.mg W u)) : PW X (.BoolOp .And (a :: b :: rest) pos) (tT X.K X.mg W (cAnd t u)) := pw_imp (pw_and ha hb) fun σ H Q h => by
  obtain ⟨B, e, S, r, h⟩ := h
  refine ⟨B, e, S, r, h.bind.imp (fun b e' h B' H' S' r' f => ?_) fun _ _ z => z⟩
  cases b with
  | true => exact iteT ⟨B', e', S', r', (show Post (u e') _ _ from h).imp (fun b e2 h B2 H2 S2 r2 f2 => h B2 H2 S2 r2 (f.trans f2)) fun _ _ z => z.step f⟩
  | false => exact iteF (h B' H' S' r' f)
theorem w_or {t u : M Bool} {rest : List Expr} (ha : PT X a (tT X.K X.mg W t)) (hb : PW X (.BoolOp .Or (b :: rest) pos) (tT X.K X.mg W u)) : PW X (.BoolOp .Or (a :: b :: rest) pos) (tT X.K X.mg W (cOr t u)) := pw_imp (pw_or ha hb) fun σ H Q h => by
  obtain ⟨B, e, S, r, h⟩ := h
  refine ⟨B, e, S, r, h.bind.imp (fun b e' h B' H' S' r' f => ?_) fun _ _ z => z⟩
  cases b with
  | false => exact iteF ⟨B', e', S', r', (show Post (u e') _ _ from h).imp (fun b e2 h B2 H2 S2 r2 f2 => h B2 H2 S2 r2 (f.trans f2)) fun _ _ z => z.step f⟩
  | true => exact iteT (h B' H' S' r' f)
theorem c_w {t : M Bool} (h : PW X e (tT X.K X.mg W t)) : PT X e (tT X.K X.mg W t) := h.pt

/-! ### and, or, not as values -/
theorem d_one {bop : BoolOp} (h : PE X e (tE X.K X.mg W f)) : PE X (.BoolOp bop [e] pos) (tE X.K X.mg W f) := pe_one h
theorem d_and {rest : List Expr} (ha : PE X a (tE X.K X.mg W f)) (hb : PE X (.BoolOp .And (b :: rest) pos) (tE X.K X.mg W g)) : PE X (.BoolOp .And (a :: b :: rest) pos) (tE X.K X.mg W (eAnd f g)) := pe_imp (pe_and ha hb) fun σ H Q h => by
  obtain ⟨B, e, S, r, h⟩ := h
  refine ⟨B, e, S, r, h.bind.imp (fun o e' h v B' H' S' T vl f => ?_) fun _ _ z => z⟩
  have f' := f.imp (fun _ z => z) (fun a (z : tot S' a) => .inr z)
  cases o with
  | lst ds => exact h.elim
  | dct _ _ => exact h.elim
  | ins _ _ _ => exact h.elim
  | exn _ _ _ => exact h.elim
  | fr d =>
    cases d with
    | bl b =>
      have hr := vl.ro.1
      cases hr
      cases b with
      | true => exact ⟨true, rfl, iteT ⟨B', e', S', vl.rp, (show Post (g e') _ _ from h).imp (fun o e2 h v B2 H2 S2 T2 vl2 f2 => h v B2 H2 S2 T2 vl2 (f'.trans f2)) fun _ _ z => z.step f'⟩⟩
      | false => exact ⟨false, rfl, iteF (h _ B' H' S' noS (.fr vl.rp (.bl false)) (f.imp (fun _ z => z) fun a z => z.elim (fun z => z.elim) .inr))⟩
    | _ => exact h.elim
theorem d_or {rest : List Expr} (ha : PE X a (tE X.K X.mg W f)) (hb : PE X (.BoolOp .Or (b :: rest) pos) (tE X.K X.mg W g)) : PE X (.BoolOp .Or (a :: b :: rest) pos) (tE X.K X.mg W (eOr f g)) := pe_imp (pe_or ha hb) fun σ H Q h => by
  obtain ⟨B, e, S, r, h⟩ := h
  refine ⟨B, e, S, r, h.bind.imp (fun o e' h v B' H' S' T vl f => ?_) fun _ _ z => z⟩
  have f' := f.imp (fun _ z => z) (fun a (z : tot S' a) => .inr z)
  cases o with
  | lst ds => exact h.elim
  | dct _ _ => exact h.elim
  | ins _ _ _ => exact h.elim
  | exn _ _ _ => exact h.elim
  | fr d =>
    cases d with
    | bl b =>
      have hr := vl.ro.1
      cases hr
      cases b with
      | false => exact ⟨false, rfl, iteF ⟨B', e', S', vl.rp, (show Post (g e') _ _ from h).imp (fun o e2 h v B2 H2 S2 T2 vl2 f2 => h v B2 H2 S2 T2 vl2 (f'.trans f2)) fun _ _ z => z.step f'⟩⟩
      | true => exact ⟨true, rfl, iteT (h _ B' H' S' noS (.fr vl.rp (.bl true)) (f.imp (fun _ z => z) fun a z => z.elim (fun z => z.elim) .inr))⟩
    | _ => exact h.elim
theorem d_not (ha : PE X a (tE X.K X.mg W f)) : PE X (.UnaryOp .Not a pos) (tE X.K X.mg W (eNot f)) := pe_imp (pe_not ha) fun σ H Q h => by
  obtain ⟨B, e, S, r, h⟩ := h
  refine ⟨B, e, S, r, h.bind.imp (fun o e' h v B' H' S' T vl f => ?_) fun _ _ z => z⟩
  cases o with
  | lst ds => exact h.elim
  | dct _ _ => exact h.elim
  | ins _ _ _ => exact h.elim
  | exn _ _ _ => exact h.elim
  | fr d =>
    cases d with
    | bl b =>
      have hr := vl.ro.1
      cases hr
      exact ⟨b, rfl, h _ B' H' S' noS (.fr vl.rp (.bl _)) (f.imp (fun _ z => z) fun a z => z.elim (fun z => z.elim) .inr)⟩
    | _ => exact h.elim
theorem d_if {t : M Bool} (hc : PT X c (tT X.K X.mg W t)) (ha : PE X a (tE X.K X.mg W f)) (hb : PE X b (tE X.K X.mg W g)) : PE X (.IfExp c a b pos) (tE X.K X.mg W (eIf t f g)) := pe_imp (pe_ifExp hc ha hb) fun σ H Q h => by
  obtain ⟨B, e, S, r, h⟩ := h
  refine ⟨B, e, S, r, h.bind.imp (fun b e' h B' H' S' r' f' => ?_) fun _ _ z => z⟩
  cases b with
  | true => exact iteT ⟨B', e', S', r', (show Post (f e') _ _ from h).imp (fun o e2 h v B2 H2 S2 T2 vl2 f2 => h v B2 H2 S2 T2 vl2 (f'.trans f2)) fun _ _ z => z.step f'⟩
  | false => exact iteF ⟨B', e', S', r', (show Post (g e') _ _ from h).imp (fun o e2 h v B2 H2 S2 T2 vl2 f2 => h v B2 H2 S2 T2 vl2 (f'.trans f2)) fun _ _ z => z.step f'⟩
end
end Dn

namespace Dn
open PySem L2
open Evl (Ex)

/-! ## 6. Statements -/
section
variable {K : PySem.W.Frag} {mg : Str → Option Value} {W : WX} {B B' H H' : Hp} {v x y : V} {o : O} {d : D} {σ σ' : St} {e e' : Sl} {S S' : Nat → Addr → Prop} {T T' : Addr → Prop} {ks : List Nat}
/-- what is wanted behind a statement, from (B, H, S, σ) on -/
def Nd (K : PySem.W.Frag) (D : Ends) (ks : List Nat) (B H : Hp) (S : Nat → Addr → Prop) (σ : St) : Fl → Sl → Prop := fun fl e' => match fl with
    | .next => ∀ σ' B' H' S', Rp K B' H' σ' e' S' → Kp ks σ σ' → Fr B H (tot S) B' H' (tot S') → D.nx σ' H'
    | .brk => ∀ σ' B' H' S', Rp K B' H' σ' e' S' → Kp ks σ σ' → Fr B H (tot S) B' H' (tot S') → D.bk σ' H'
    | .cnt => ∀ σ' B' H' S', Rp K B' H' σ' e' S' → Kp ks σ σ' → Fr B H (tot S) B' H' (tot S') → D.ct σ' H'
    | .ret o => ∀ v σ' B' H' S' T, Vl K B' H' σ' e' S' v o T → Kp ks σ σ' → Fr B H (tot S) B' H' (fun a => T a ∨ tot S' a) → D.rt v H'
theorem tS_iff {g : M Fl} {D : Ends} : tS K mg W ks g D σ H ↔ ∃ B e S, Rp K B H σ e S ∧ Post (g e) (Nd K D ks B H S σ) (ExS K mg W ks B H S σ) := Iff.rfl
theorem Nd.step {D : Ends} {fl : Fl} (h : Nd K D ks B H S σ fl e') (k : Kp ks σ σ') (f : Fr B H (tot S) B' H' (tot S')) : Nd K D ks B' H' S' σ' fl e' := by
  cases fl with
  | next => exact fun σ2 B2 H2 S2 r k2 f2 => h σ2 B2 H2 S2 r (k.trans k2) (f.trans f2)
  | brk => exact fun σ2 B2 H2 S2 r k2 f2 => h σ2 B2 H2 S2 r (k.trans k2) (f.trans f2)
  | cnt => exact fun σ2 B2 H2 S2 r k2 f2 => h σ2 B2 H2 S2 r (k.trans k2) (f.trans f2)
  | ret o => exact fun v σ2 B2 H2 S2 T vl k2 f2 => h v σ2 B2 H2 S2 T vl (k.trans k2) (f.trans f2)
theorem Fr.weak {H1 B1 : Hp} {T : Addr → Prop} (f : Fr B H (tot S) B1 H1 (fun a => T a ∨ tot S' a)) : Fr B H (tot S) B1 H1 (tot S') := f.imp (fun _ z => z) fun _ z => .inr z
end

section
variable {X : Cx} {W : WX} {ks : List Nat} {st : Stmt} {rest : List Stmt} {g g1 g2 : M Fl} {f : M O} {e : Expr} {pos : Pos}
theorem ss_nil : PSs X [] (tS X.K X.mg W ks sNext) := pss_imp pss_nil fun D σ H h => by
  obtain ⟨B, e, S, r, h⟩ := h
  exact h σ B H S r (Kp.refl _ _) (Fr.refl _ _ _)
theorem ss_one (h : PS X st (tS X.K X.mg W ks g)) : PSs X [st] (tS X.K X.mg W ks g) := pss_one h
theorem ss_cons (h1 : PS X st (tS X.K X.mg W ks g1)) (h2 : PSs X rest (tS X.K X.mg W ks g2)) : PSs X (st :: rest) (tS X.K X.mg W ks (sSeq g1 g2)) := pss_imp (pss_cons h1 h2) fun D σ H h => by
  obtain ⟨B, e, S, r, h⟩ := h
  refine ⟨B, e, S, r, h.bind.imp (fun fl e' h => ?_) fun _ _ z => z⟩
  cases fl with
  | next => exact fun σ' B' H' S' r' k f => ⟨B', e', S', r', (show Post (g2 e') (Nd X.K D ks B H S σ) _ from h).imp (fun fl e2 h => h.step k f) fun x e2 z => ExS.step z k f⟩
  | brk => exact h
  | cnt => exact h
  | ret o => exact h
theorem s_pass : PS X (.Pass pos) (tS X.K X.mg W ks sNext) := ps_imp ps_pass fun D σ H h => by
  obtain ⟨B, e, S, r, h⟩ := h
  exact h σ B H S r (Kp.refl _ _) (Fr.refl _ _ _)
theorem s_doc {x j pos'} : PS X (.Expr (.Constant (.str x) j pos) pos') (tS X.K X.mg W ks sNext) := ps_imp ps_doc fun D σ H h => by
  obtain ⟨B, e, S, r, h⟩ := h
  exact h σ B H S r (Kp.refl _ _) (Fr.refl _ _ _)
theorem s_brk : PS X (.Break pos) (tS X.K X.mg W ks sBrk) := ps_imp ps_break fun D σ H h => by
  obtain ⟨B, e, S, r, h⟩ := h
  exact h σ B H S r (Kp.refl _ _) (Fr.refl _ _ _)
theorem s_cnt : PS X (.Continue pos) (tS X.K X.mg W ks sCnt) := ps_imp ps_continue fun D σ H h => by
  obtain ⟨B, e, S, r, h⟩ := h
  exact h σ B H S r (Kp.refl _ _) (Fr.refl _ _ _)
theorem s_ret (h : PE X e (tE X.K X.mg W f)) : PS X (.Return (some e) pos) (tS X.K X.mg W ks (sRet f)) := ps_imp (ps_ret h) fun D σ H h => by
  obtain ⟨B, e, S, r, h⟩ := h
  exact ⟨B, e, S, r, h.bind.imp (fun o e' h v B' H' S' T vl f => h v σ B' H' S' T vl (Kp.refl _ _) f) fun _ _ z => ExS.toE z⟩
theorem s_retN : PS X (.Return none pos) (tS X.K X.mg W ks (sRet (eC .non))) := ps_imp ps_retN fun D σ H h => by
  obtain ⟨B, e, S, r, h⟩ := h
  exact h .non σ B H S noS (.fr r .non) (Kp.refl _ _) ((Fr.refl _ _ _).imp (fun _ z => z) fun a z => z.elim (fun z => z.elim) id)
theorem s_drop (h : PE X e (tE X.K X.mg W f)) (hs : swapsWith e none pos.line X.env = pure false := by rfl) : PS X (.Expr e pos) (tS X.K X.mg W ks (sDrop f)) := ps_imp (ps_expr h hs) fun D σ H h => by
  obtain ⟨B, e, S, r, h⟩ := h
  exact ⟨B, e, S, r, h.bind.imp (fun o e' h v B' H' S' T vl f => h σ B' H' S' vl.rp (Kp.refl _ _) f.weak) fun _ _ z => ExS.toE z⟩
theorem s_if {c : Expr} {a b : List Stmt} {t : M Bool} (hc : PT X c (tT X.K X.mg W t)) (ha : PSs X a (tS X.K X.mg W ks g1)) (hb : PSs X b (tS X.K X.mg W ks g2)) : PS X (.If c a b pos) (tS X.K X.mg W ks (sIf t g1 g2)) := ps_imp (ps_if hc ha hb) fun D σ H h => by
  obtain ⟨B, e, S, r, h⟩ := h
  refine ⟨B, e, S, r, h.bind.imp (fun b e' h B' H' S' r' f => ?_) fun _ _ z => ExS.toE z⟩
  cases b with
  | true => exact iteT ⟨B', e', S', r', (show Post (g1 e') (Nd X.K D ks B H S σ) _ from h).imp (fun fl e2 h => h.step (Kp.refl _ _) f) fun x e2 z => ExS.step z (Kp.refl _ _) f⟩
  | false => exact iteF ⟨B', e', S', r', (show Post (g2 e') (Nd X.K D ks B H S σ) _ from h).imp (fun fl e2 h => h.step (Kp.refl _ _) f) fun x e2 z => ExS.step z (Kp.refl _ _) f⟩
theorem Fr.sets {B H B' H' : Hp} {S : Nat → Addr → Prop} {S' : Nat → Addr → Prop} {T : Addr → Prop} {i n : Nat} (f : Fr B H (tot S) B' H' (fun a => T a ∨ tot S' a)) : Fr B H (tot S) B' H' (tot (fun j => if j = i then (if i < n then T else noS) else S' j)) :=
  f.imp (fun _ z => z) fun _ z => tot_set z
theorem s_set {i : Nat} {x : Str} {pos' : Pos} (hN : X.N.Nodup) (hi : X.N[i]? = some x) (hx : Loc X.env.scope x) (h : PE X e (tE X.K X.mg W f)) (hk : i ∉ ks := by decide) (hs : swapsWith e (some (.Name x pos')) pos.line X.env = pure false := by rfl) (hf : X.fn x = true ∨ X.env.scope.names.lookup x = some .local := by first | exact .inl rfl | exact .inr rfl | assumption) :
    PS X (.Assign [.Name x pos'] e pos) (tS X.K X.mg W ks (sSet i f)) := ps_imp (ps_set hN hi hx h hs hf) fun D σ H h => by
  obtain ⟨B, e, S, r, h⟩ := h
  refine ⟨B, e, S, r, h.bind.imp (fun o e' h v B' H' S' T vl f => ?_) fun _ _ z => ExS.toE z⟩
  exact h _ B' H' _ (vl.set i) (Kp.set hk) f.sets

/-! ## 7. Displays, slices -/
/-- the items of a display, each kept from now on -/
def tIs (K : PySem.W.Frag) (mg : Str → Option Value) (W : WX) : List (M O) → TA
  | [] => tNil
  | f :: fs => tCons (tE K mg W f) (tIs K mg W fs)
theorem items_run {K : PySem.W.Frag} {mg : Str → Option Value} {W : WX} {σ : St} : ∀ (fs : List (M O)) {B H : Hp} {e : Sl} {S : Nat → Addr → Prop} (Q : List V → Hp → Prop), Rp K B H σ e S →
    Post (items fs e) (fun ds e' => ∀ vs B' H' S', Rp K B' H' σ e' S' → RepL K B' vs ds → Fr B H (tot S) B' H' (tot S') → Q vs H') (fun x e' => ExE K mg W B H S σ x e') → tIs K mg W fs σ H Q
  | [], B, H, e, S, Q, r, h => h [] B H S r .nil (Fr.refl _ _ _)
  | f :: fs, B, H, e, S, Q, r, h => by
    unfold items at h
    refine ⟨B, e, S, r, h.bind.imp (fun o e1 h v B1 H1 S1 T vl f1 => ?_) fun _ _ z => z⟩
    obtain ⟨B2, vl2, f2⟩ := vl.freeze
    have f3 : Fr B H (tot S) B2 H1 (tot S1) := f1.trans ⟨f2.b, fun a o q _ => q, fun a z => .inl (.inr z), fun a u q => (f2.c a u q).elim .inl fun z => .inr (z.elim (fun z => .inl (.inl z)) .inr), fun a o q => ⟨o, q⟩⟩
    refine items_run fs _ vl2.rp (h.bind.imp (fun ds e' h vs B' H' S' r' rl f4 => ?_) fun x e' z => z.step f3)
    have h' : ∀ vs B' H' S', Rp K B' H' σ e' S' → RepL K B' vs (o.d :: ds) → Fr B H (tot S) B' H' (tot S') → Q vs H' := h
    exact h' _ B' H' S' r' (.cons (vl2.ro.1.mono f4.b) rl) (f3.trans f4)
theorem is_n : PA X [] (tIs X.K X.mg W []) := pa_nil
theorem is_c {es : List Expr} {fs : List (M O)} (h : PE X e (tE X.K X.mg W f)) (hr : PA X es (tIs X.K X.mg W fs)) (hs : starEach (e :: es) X.env = (false, eval e X.env) :: starEach es X.env := by rfl) : PA X (e :: es) (tIs X.K X.mg W (f :: fs)) := pa_cons h hr hs
theorem small_items : ∀ (fs : List (M O)) (e : Sl) (ds : List D) (e' : Sl), items fs e = some (.ok ds e') → ds.length = fs.length
  | [], e, ds, e', h => by cases h; rfl
  | f :: fs, e, ds, e', h => by
    unfold items M.bind at h
    cases q : f e with
    | none => rw [q] at h; cases h
    | some r =>
      cases r with
      | ex x e1 => rw [q] at h; cases h
      | ok o e1 =>
        rw [q] at h
        dsimp only [M.bind] at h
        cases q2 : items fs e1 with
        | none => rw [q2] at h; cases h
        | some r2 =>
          cases r2 with
          | ex x e2 => rw [q2] at h; cases h
          | ok ds2 e3 =>
            rw [q2] at h
            have q3 := small_items fs e1 ds2 e3 q2
            cases h
            rw [List.length_cons, List.length_cons, q3]
theorem RepL.len_of {K : PySem.W.Frag} {B : Hp} {vs : List V} {ds : List D} {n : Nat} (h : RepL K B vs ds) (e : ds.length = n) (hn : n ≤ 1000) : vs.length ≤ sizeLine := by
  rw [h.length, e]
  exact Nat.le_trans hn (by decide)
theorem post_len {fs : List (M O)} {e : Sl} {ok : List D → Sl → Prop} {ex : Exn → Sl → Prop} (h : Post (items fs e) ok ex) : Post (items fs e) (fun ds e' => ok ds e' ∧ ds.length = fs.length) ex := by
  cases q : items fs e with
  | none => rw [q] at h; exact h
  | some r =>
    rw [q] at h
    cases r with
    | ex x e1 => exact h
    | ok ds e1 => exact ⟨h, small_items fs e ds e1 q⟩
theorem d_tup {es : List Expr} {fs : List (M O)} {x1} (h : PA X es (tIs X.K X.mg W fs)) (hn : fs.length ≤ 1000 := by decide) : PE X (.Tuple es x1 pos) (tE X.K X.mg W (eTup fs)) := pe_imp (pe_tup h) fun σ H Q h => by
  obtain ⟨B, e, S, r, h⟩ := h
  refine items_run fs _ r ((post_len h.bind).imp (fun ds e' h vs B' H' S' r' rl f => ⟨rl.len_of h.2 hn, fun p hp => ?_⟩) fun _ _ z => z)
  have h' : ∀ v B' H' S' T, Vl X.K B' H' σ e' S' v (.fr (.tup ds)) T → Fr B H (tot S) B' H' (fun a => T a ∨ tot S' a) → Q v H' := h.1
  exact (r'.giv fun v B2 H2 S2 T vl f2 => h' v B2 H2 S2 T vl (f.trans f2)).newT r'.ex rl hp
theorem d_lst {es : List Expr} {fs : List (M O)} (h : PA X es (tIs X.K X.mg W fs)) (hn : fs.length ≤ 1000 := by decide) : PE X (.List es pos) (tE X.K X.mg W (eLst fs)) := pe_imp (pe_lst h) fun σ H Q h => by
  obtain ⟨B, e, S, r, h⟩ := h
  refine items_run fs _ r ((post_len h.bind).imp (fun ds e' h vs B' H' S' r' rl f => ⟨rl.len_of h.2 hn, fun p hp => ?_⟩) fun _ _ z => z)
  have h' : ∀ v B' H' S' T, Vl X.K B' H' σ e' S' v (.lst ds) T → Fr B H (tot S) B' H' (fun a => T a ∨ tot S' a) → Q v H' := h.1
  exact (r'.giv fun v B2 H2 S2 T vl f2 => h' v B2 H2 S2 T vl (f.trans f2)).newL r'.ex rl hp
end

/-! ## 8. What is walked -/
/-- frozen data walked: item by item, new objects at most -/
def WalkD (K : PySem.W.Frag) (J : It) (B : Hp) (ds : List D) : Prop := ∃ (G : Hp → Prop) (Y : Nat → Hp → V → Hp → Prop), Walk J ds.length G Y ∧ (∀ H, Ex B H → G H) ∧
  ∀ i H x H' B1, i < ds.length → Ex B B1 → Ex B1 H → Y i H x H' → ∃ B2 d, Gr B1 H B2 H' ∧ ds[i]? = some d ∧ Rep K B2 x d
def tSrc (K : PySem.W.Frag) (mg : Str → Option Value) (W : WX) (src : M (List D)) : TI := fun σ H R => ∃ B e S, Rp K B H σ e S ∧ Post (src e)
  (fun ds e' => ∀ J B' H' S', Rp K B' H' σ e' S' → Fr B H (tot S) B' H' (tot S') → WalkD K J B' ds → R J H') (fun x e' => ExE K mg W B H S σ x e')
theorem pi_imp {X : Cx} {tg e : Expr} {t t' : TI} (h : PI X tg e t) (i : ∀ σ H R, t' σ H R → t σ H R) : PI X tg e t' := ⟨fun pins s σ H R I q => h.run pins s σ H R I (i σ H R q)⟩
/-- a target: names, or a tuple of names -/
inductive Tg where
  | n (i : Nat) | t (is : List Nat)
def setAll : List Nat → List D → Sl → Option Sl
  | [], [], e => some e
  | i :: is, d :: ds, e => setAll is ds (e.set i (some (.fr d)))
  | _, _, _ => none
def Tg.go : Tg → D → Sl → Option Sl
  | .n i, d, e => some (e.set i (some (.fr d)))
  | .t is, .tup ds, e => setAll is ds e
  | _, _, _ => none
def Tg.ix : Tg → List Nat
  | .n i => [i]
  | .t is => is
def tTgs : List Nat → TGs
  | [] => gNil
  | i :: is => gCons (gName i) (tTgs is)
def tTg (K : PySem.W.Frag) : Tg → TG
  | .n i => gName i
  | .t is => gTup K is.length (tTgs is)
theorem setAll_run {K : PySem.W.Frag} {B H : Hp} {ks : List Nat} : ∀ (is : List Nat) (vs : List V) (ds : List D) {σ : St} {e e' : Sl} {S : Nat → Addr → Prop} (Q : St → Hp → Prop), Rp K B H σ e S → RepL K B vs ds → setAll is ds e = some e' → (∀ i ∈ is, i ∉ ks) →
    (∀ σ' S', Rp K B H σ' e' S' → Kp ks σ σ' → (∀ a, tot S' a → tot S a) → (∀ j, j ∉ is → σ'[j]? = σ[j]?) → Q σ' H) → tTgs is vs σ H Q
  | [], [], [], σ, e, e', S, Q, r, rl, h, hk, q => by
    cases h
    exact ⟨rfl, q σ S r (Kp.refl _ _) (fun _ z => z) fun _ _ => rfl⟩
  | [], _ :: _, _ :: _, _, _, _, _, _, _, _, h, _, _ => by cases h
  | [], [], _ :: _, _, _, _, _, _, _, rl, h, _, _ => by cases rl
  | [], _ :: _, [], _, _, _, _, _, _, rl, h, _, _ => by cases rl
  | _ :: _, _, [], _, _, _, _, _, _, _, h, _, _ => by cases h
  | _ :: _, [], _ :: _, _, _, _, _, _, _, rl, _, _, _ => by cases rl
  | i :: is, v :: vs, d :: ds, σ, e, e', S, Q, r, .cons hv rl, h, hk, q => by
    refine ⟨v, vs, rfl, setAll_run is vs ds (K := K) (B := B) (ks := ks) Q ((Vl.fr r hv).set i) rl h (fun j hj => hk j (List.mem_cons_of_mem _ hj)) fun σ' S' r' k' t' n' => ?_⟩
    refine q σ' S' r' ((Kp.set (hk i List.mem_cons_self)).trans k') (fun a z => ?_) fun j hj => ?_
    · exact (tot_set (t' a z)).elim (fun z => z.elim) id
    · rw [List.mem_cons, not_or] at hj
      rw [n' j hj.2, List.getElem?_set_ne (Ne.symm hj.1)]
theorem setAll_len : ∀ (is : List Nat) (ds : List D) {e e' : Sl}, setAll is ds e = some e' → ds.length = is.length
  | [], [], _, _, _ => rfl
  | [], _ :: _, _, _, h => by cases h
  | _ :: _, [], _, _, h => by cases h
  | i :: is, d :: ds, e, e', h => by
    rw [List.length_cons, List.length_cons, setAll_len is ds (e := e.set i (some (.fr d))) h]
theorem tg_run {K : PySem.W.Frag} {B H : Hp} {ks : List Nat} {tg : Tg} {v : V} {d : D} {σ : St} {e e' : Sl} {S : Nat → Addr → Prop} {Q : St → Hp → Prop} (r : Rp K B H σ e S) (hv : Rep K B v d) (h : tg.go d e = some e') (hk : ∀ i ∈ tg.ix, i ∉ ks)
    (q : ∀ σ' S', Rp K B H σ' e' S' → Kp ks σ σ' → (∀ a, tot S' a → tot S a) → (∀ j, j ∉ tg.ix → σ'[j]? = σ[j]?) → Q σ' H) : tTg K tg v σ H Q := by
  cases tg with
  | n i =>
    cases h
    refine q _ _ ((Vl.fr r hv).set i) (Kp.set (hk i List.mem_cons_self)) (fun a z => (tot_set z).elim (fun z => z.elim) id) fun j hj => ?_
    rw [List.getElem?_set_ne]
    intro z
    exact hj (by rw [z]; exact List.mem_cons_self)
  | t is =>
    cases d with
    | tup ds =>
      have h' : setAll is ds e = some e' := h
      cases hv with
      | tup hq rl =>
        have hl : ds.length = is.length := by
          exact setAll_len is ds h'
        exact ⟨_, _, rfl, Evl.ex_t r.ex hq, rl.length.trans hl, setAll_run is _ ds Q r rl h' hk q⟩
    | _ => cases h

def forL (tg : Tg) (body : M Fl) : List D → M Fl
  | [] => M.pure .next
  | d :: ds => fun e => match tg.go d e with
    | none => none
    | some e1 => match body e1 with
      | none => none
      | some (.ex x e') => some (.ex x e')
      | some (.ok fl e') => match fl with
        | .next => forL tg body ds e'
        | .cnt => forL tg body ds e'
        | .brk => some (.ok .next e')
        | .ret o => some (.ok (.ret o) e')
def sFor (src : M (List D)) (tg : Tg) (body : M Fl) : M Fl := src.bind fun ds => forL tg body ds
def whL (c : M Bool) (body : M Fl) : Nat → M Fl
  | 0 => M.stuck
  | n + 1 => c.bind fun b => if b then (fun e => match body e with
      | none => none
      | some (.ex x e') => some (.ex x e')
      | some (.ok fl e') => match fl with
        | .next => whL c body n e'
        | .cnt => whL c body n e'
        | .brk => some (.ok .next e')
        | .ret o => some (.ok (.ret o) e')) else M.pure .next

section
variable {X : Cx} {W : WX} {ks : List Nat} {g : M Fl} {pos : Pos} {tg : Tg} {src : M (List D)}
theorem s_for {iter target : Expr} {body : List Stmt} (hp : PassesOwn (model X.prog X.w) X.A X.env X.xe) (hc : X.calm = true) (hi : PI X target iter (tSrc X.K X.mg W src)) (hg : PG X target (tTg X.K tg)) (hb : PSs X body (tS X.K X.mg W ks g)) (hk : ∀ i ∈ tg.ix, i ∉ ks)
    (hs : ∀ x, foldedSetIterable iter X.env x = pure x := by intro _; rfl) : PS X (.For target iter body [] pos) (tS X.K X.mg W ks (sFor src tg g)) := ps_imp (ps_for hp hc hi hg hb hs) fun D σ H h => by
  obtain ⟨B, e, S, r, h⟩ := h
  refine ⟨B, e, S, r, h.bind.imp (fun ds e1 h J B1 H1 S1 r1 f1 wd => ?_) fun _ _ z => ExS.toE z⟩
  obtain ⟨G, Y, wk, hG, hY⟩ := wd
  have h0 : Post (forL tg g ds e1) (Nd X.K D ks B H S σ) (ExS X.K X.mg W ks B H S σ) := h
  refine for_it wk (fun i σ' H' => ∃ B' e' S', Rp X.K B' H' σ' e' S' ∧ Kp ks σ σ' ∧ Fr B H (tot S) B' H' (tot S') ∧ Ex B1 B' ∧ Post (forL tg g (ds.drop i) e') (Nd X.K D ks B H S σ) (ExS X.K X.mg W ks B H S σ)) ⟨B1, e1, S1, r1, Kp.refl _ _, f1, Ex.refl _, h0⟩ (fun i σ' H' hi ⟨B', e', S', r', k', f', x', h'⟩ => hG _ (x'.trans r'.ex)) (fun i x σ' H' H2 hi ⟨B', e', S', r', k', f', x', h'⟩ hy => ?_) fun σ' H' ⟨B', e', S', r', k', f', x', h'⟩ => ?_
  · obtain ⟨B2, d, gr, hd, rv⟩ := hY i H' x H2 B' hi x' r'.ex hy
    have ed : ds.drop i = d :: ds.drop (i + 1) := by
      rw [List.drop_eq_getElem_cons hi]
      rw [List.getElem?_eq_getElem hi] at hd
      cases hd
      rfl
    rw [ed] at h'
    unfold forL at h'
    cases q : tg.go d e' with
    | none => rw [q] at h'; exact h'.elim
    | some e2 =>
      rw [q] at h'
      have r2 := r'.grow gr
      refine tg_run (ks := ks) r2 rv q hk fun σ3 S3 r3 k3 t3 _ => ?_
      have f3 : Fr B H (tot S) B2 H2 (tot S3) := (f'.trans (gr.fr (tot S'))).imp (fun _ z => z) t3
      refine ⟨B2, e2, S3, r3, ?_⟩
      cases qb : g e2 with
      | none => simp only [qb] at h'; exact h'.elim
      | some rr =>
        cases rr with
        | ex x2 e4 =>
          simp only [qb] at h'
          exact ExS.step h' (k'.trans k3) f3
        | ok fl e4 =>
          simp only [qb] at h'
          cases fl with
          | next => exact fun σ4 B4 H4 S4 r4 k4 f4 => ⟨B4, e4, S4, r4, (k'.trans k3).trans k4, f3.trans f4, (x'.trans gr.b).trans f4.b, h'⟩
          | cnt => exact fun σ4 B4 H4 S4 r4 k4 f4 => ⟨B4, e4, S4, r4, (k'.trans k3).trans k4, f3.trans f4, (x'.trans gr.b).trans f4.b, h'⟩
          | brk => exact fun σ4 B4 H4 S4 r4 k4 f4 => (show Nd X.K D ks B H S σ .next e4 from h') σ4 B4 H4 S4 r4 ((k'.trans k3).trans k4) (f3.trans f4)
          | ret o => exact fun v σ4 B4 H4 S4 T4 vl k4 f4 => (show Nd X.K D ks B H S σ (.ret o) e4 from h') v σ4 B4 H4 S4 T4 vl ((k'.trans k3).trans k4) (f3.trans f4)
  · rw [List.drop_length] at h'
    exact (show Nd X.K D ks B H S σ .next e' from h') σ' B' H' S' r' k' f'
theorem s_while {c : Expr} {body : List Stmt} {t : M Bool} (n : Nat) (hp : PassesOwn (model X.prog X.w) X.A X.env X.xe) (hc : PT X c (tT X.K X.mg W t)) (hb : PSs X body (tS X.K X.mg W ks g)) : PS X (.While c body [] pos) (tS X.K X.mg W ks (whL t g n)) := ps_imp (ps_while hp hc hb) fun D σ H h => by
  obtain ⟨B, e, S, r, h⟩ := h
  have h0 : Post (whL t g n e) (Nd X.K D ks B H S σ) (ExS X.K X.mg W ks B H S σ) := h
  refine ⟨fun m σ' H' => ∃ B' e' S', Rp X.K B' H' σ' e' S' ∧ Kp ks σ σ' ∧ Fr B H (tot S) B' H' (tot S') ∧ Post (whL t g m e') (Nd X.K D ks B H S σ) (ExS X.K X.mg W ks B H S σ), ⟨n, B, e, S, r, Kp.refl _ _, Fr.refl _ _ _, h0⟩, fun m σ' H' ⟨B', e', S', r', k', f', h'⟩ => ?_⟩
  cases m with
  | zero => exact h'.elim
  | succ m =>
    unfold whL at h'
    refine ⟨B', e', S', r', h'.bind.imp (fun b e2 h2 B2 H2 S2 r2 f2 => ?_) fun x e2 z => (ExS.step z k' f').toE⟩
    cases b with
    | false => exact iteF ((show Nd X.K D ks B H S σ .next e2 from h2) σ' B2 H2 S2 r2 k' (f'.trans f2))
    | true =>
      refine iteT ⟨fun σ4 H4 => ∃ m', m' < m + 1 ∧ ∃ B' e' S', Rp X.K B' H4 σ4 e' S' ∧ Kp ks σ σ4 ∧ Fr B H (tot S) B' H4 (tot S') ∧ Post (whL t g m' e') (Nd X.K D ks B H S σ) (ExS X.K X.mg W ks B H S σ), fun σ4 H4 ⟨m', hm, z⟩ => ⟨m', hm, z⟩, B2, e2, S2, r2, ?_⟩
      rw [if_pos rfl] at h2
      cases qb : g e2 with
      | none => simp only [qb] at h2; exact h2.elim
      | some rr =>
        cases rr with
        | ex x2 e4 =>
          simp only [qb] at h2
          exact ExS.step h2 k' (f'.trans f2)
        | ok fl e4 =>
          simp only [qb] at h2
          cases fl with
          | next => exact fun σ4 B4 H4 S4 r4 k4 f4 => ⟨m, Nat.lt_succ_self m, B4, e4, S4, r4, k'.trans k4, (f'.trans f2).trans f4, h2⟩
          | cnt => exact fun σ4 B4 H4 S4 r4 k4 f4 => ⟨m, Nat.lt_succ_self m, B4, e4, S4, r4, k'.trans k4, (f'.trans f2).trans f4, h2⟩
          | brk => exact fun σ4 B4 H4 S4 r4 k4 f4 => (show Nd X.K D ks B H S σ .next e4 from h2) σ4 B4 H4 S4 r4 (k'.trans k4) ((f'.trans f2).trans f4)
          | ret o => exact fun v σ4 B4 H4 S4 T4 vl k4 f4 => (show Nd X.K D ks B H S σ (.ret o) e4 from h2) v σ4 B4 H4 S4 T4 vl (k'.trans k4) ((f'.trans f2).trans f4)
end
end Dn

namespace Dn
open PySem L2
open Evl (Ex)

/-! ## 9. Defs and calls -/
inductive RF where
  | ok (o : O) (os : List O) | ex (x : Exn) (os : List O)
abbrev Fn := List O → Option RF
/-- the arguments: a slot handed on as it stands, or a value that is kept -/
def cops : List P → M (List O)
  | [] => M.pure []
  | .b i :: ps => fun e => match e[i]? with
    | some (some _) => (cops ps).bind (fun os e' => match e'[i]? with
      | some (some o) => some (.ok (o :: os) e')
      | _ => none) e
    | _ => none
  | .v f :: ps => f.bind fun o => (cops ps).bind fun os => M.pure (.fr o.d :: os)
/-- behind the call the slots that were handed on -/
def wb : List P → List O → Sl → Sl
  | .b i :: ps, o :: os, e => (wb ps os e).set i (some o)
  | .v _ :: ps, _ :: os, e => wb ps os e
  | _, _, e => e
def bs : List P → List Nat
  | [] => []
  | .b i :: ps => i :: bs ps
  | .v _ :: ps => bs ps
def eCall (F : Fn) (ps : List P) (dv : List D) : M O := (cops ps).bind fun os e => match F (os ++ dv.map .fr) with
  | none => none
  | some (.ok o os') => some (.ok o (wb ps os' e))
  | some (.ex x os') => some (.ex x (wb ps os' e))
def RetP (K : PySem.W.Frag) (mg : Str → Option Value) (B H : Hp) (S : Addr → Prop) (vs : List V) (Q : VK) (E : XK) : Option RF → Prop
  | none => False
  | some (.ok o os') => ∀ v B' H' S' T, os'.length = vs.length → Vl K B' H' (vs.map some) (os'.map some) S' v o T → Fr B H S B' H' (fun a => T a ∨ tot S' a) → Q v H'
  | some (.ex x os') => ∀ (C d : Addr) (fs : List (Str × V)) (B' H' : Hp) (S' : Nat → Addr → Prop), os'.length = vs.length → mg x.cls = some (.ref C) → Rp K B' H' (vs.map some) (os'.map some) S' → H' d = some (.xd fs) → XF K B' fs x.fs → H d = none → Fr B H S B' H' (tot S') → E (.ref C) (some d) H'
def spD (K : PySem.W.Frag) (mg : Str → Option Value) (n : Nat) (F : Fn) : Sp := fun vs H Q E => vs.length = n ∧ ∃ B os S, Rp K B H (vs.map some) (os.map some) S ∧ RetP K mg B H (tot S) vs Q E (F os)

section
variable {K : PySem.W.Frag} {mg : Str → Option Value} {W : WX} {B B' H H' : Hp} {v x y : V} {o : O} {d : D} {σ σ' : St} {e e' : Sl} {S S' : Nat → Addr → Prop} {T T' : Addr → Prop} {ks : List Nat}
theorem RepO.iff (h : RepO K B H v o T) (i : ∀ a, T a ↔ T' a) : RepO K B H v o T' := by
  cases o with
  | fr d => exact ⟨h.1, fun a z => h.2 a ((i a).mpr z)⟩
  | lst ds =>
    obtain ⟨p, xs, e, hp, hr, hs⟩ := h
    exact ⟨p, xs, e, hp, hr, fun a => (i a).symm.trans (hs a)⟩
  | dct kvs =>
    obtain ⟨p, kv, e, hp, hk, hr, hs⟩ := h
    exact ⟨p, kv, e, hp, hk, hr, fun a => (i a).symm.trans (hs a)⟩
  | ins c ns xs =>
    obtain ⟨p, C, dx, fs, e, hp, hc, hk, hr, hs⟩ := h
    exact ⟨p, C, dx, fs, e, hp, hc, hk, hr, fun a => (i a).symm.trans (hs a)⟩
  | exn a d x =>
    obtain ⟨e, hx, hs⟩ := h
    exact ⟨e, hx, fun a z => hs a ((i a).mpr z)⟩
/-- where an argument's own addresses come from -/
def argS (ps : List P) (S : Nat → Addr → Prop) : Nat → Addr → Prop := fun k a => ∃ i, ps[k]? = some (.b i) ∧ S i a
/-- the arguments, as they stand at the call -/
def ArgR (K : PySem.W.Frag) (B H : Hp) (σ : St) (S : Nat → Addr → Prop) : List P → List V → List O → Prop
  | [], [], [] => True
  | .b i :: ps, v :: vs, o :: os => σ[i]? = some (some v) ∧ RepO K B H v o (S i) ∧ ArgR K B H σ S ps vs os
  | .v _ :: ps, v :: vs, o :: os => RepO K B H v o noS ∧ ArgR K B H σ S ps vs os
  | _, _, _ => False
theorem cops_run : ∀ (ps : List P) {B H : Hp} {e : Sl} {S : Nat → Addr → Prop} (Q : List V → Hp → Prop), Rp K B H σ e S →
    Post (cops ps e) (fun os e' => ∀ vs B' H' S', Rp K B' H' σ e' S' → ArgR K B' H' σ S' ps vs os → Fr B H (tot S) B' H' (tot S') → Q vs H') (fun x e' => ExE K mg W B H S σ x e') → tPs K mg W ps σ H Q
  | [], B, H, e, S, Q, r, h => h [] B H S r trivial (Fr.refl _ _ _)
  | .b i :: ps, B, H, e, S, Q, r, h => by
    unfold cops at h
    cases q : e[i]? with
    | none => rw [q] at h; exact h.elim
    | some u =>
      cases u with
      | none => rw [q] at h; exact h.elim
      | some o0 =>
        rw [q] at h
        obtain ⟨v, hv, _⟩ := r.rep i o0 q
        refine ⟨v, hv, cops_run ps _ r (h.bind.imp (fun ds e' h vs B' H' S' r' rl f => ?_) fun _ _ z => z)⟩
        cases q' : e'[i]? with
        | none => rw [q'] at h; exact h.elim
        | some u' =>
          cases u' with
          | none => rw [q'] at h; exact h.elim
          | some o =>
            rw [q'] at h
            obtain ⟨v', hv', ro⟩ := r'.rep i o q'
            rw [hv] at hv'; cases hv'
            have h' : ∀ vs B' H' S', Rp K B' H' σ e' S' → ArgR K B' H' σ S' (.b i :: ps) vs (o :: ds) → Fr B H (tot S) B' H' (tot S') → Q vs H' := h
            exact h' _ B' H' S' r' ⟨hv, ro, rl⟩ f
  | .v f :: ps, B, H, e, S, Q, r, h => by
    unfold cops at h
    refine ⟨B, e, S, r, h.bind.imp (fun o e1 h v B1 H1 S1 T vl f1 => ?_) fun _ _ z => z⟩
    obtain ⟨B2, vl2, f2⟩ := vl.freeze
    have f3 : Fr B H (tot S) B2 H1 (tot S1) := f1.trans ⟨f2.b, fun a o q _ => q, fun a z => .inl (.inr z), fun a u q => (f2.c a u q).elim .inl fun z => .inr (z.elim (fun z => .inl (.inl z)) .inr), fun a o q => ⟨o, q⟩⟩
    refine cops_run ps _ vl2.rp (h.bind.imp (fun ds e' h vs B' H' S' r' rl f4 => ?_) fun x e' z => z.step f3)
    have h' : ∀ vs B' H' S', Rp K B' H' σ e' S' → ArgR K B' H' σ S' (.v f :: ps) vs (.fr o.d :: ds) → Fr B H (tot S) B' H' (tot S') → Q vs H' := h
    exact h' _ B' H' S' r' ⟨⟨vl2.ro.1.mono f4.b, fun _ z => z⟩, rl⟩ (f3.trans f4)
theorem ArgR.len : ∀ {ps : List P} {vs : List V} {os : List O}, ArgR K B H σ S ps vs os → vs.length = ps.length ∧ os.length = ps.length
  | [], [], [], _ => ⟨rfl, rfl⟩
  | .b i :: ps, v :: vs, o :: os, h => by
    obtain ⟨a, b⟩ := ArgR.len h.2.2
    exact ⟨by rw [List.length_cons, List.length_cons, a], by rw [List.length_cons, List.length_cons, b]⟩
  | .v _ :: ps, v :: vs, o :: os, h => by
    obtain ⟨a, b⟩ := ArgR.len h.2
    exact ⟨by rw [List.length_cons, List.length_cons, a], by rw [List.length_cons, List.length_cons, b]⟩
  | [], _ :: _, _, h => h.elim
  | [], [], _ :: _, h => h.elim
  | .b _ :: _, [], _, h => h.elim
  | .b _ :: _, _ :: _, [], h => h.elim
  | .v _ :: _, [], _, h => h.elim
  | .v _ :: _, _ :: _, [], h => h.elim
theorem ArgR.at : ∀ {ps : List P} {vs : List V} {os : List O} {k : Nat} {o : O}, ArgR K B H σ S ps vs os → os[k]? = some o → ∃ v, vs[k]? = some v ∧ RepO K B H v o (argS ps S k) ∧ ∀ i, ps[k]? = some (.b i) → σ[i]? = some (some v)
  | [], [], [], k, o, _, e => by simp at e
  | .b i :: ps, v :: vs, o' :: os, 0, o, h, e => by
    simp at e; subst e
    refine ⟨v, rfl, h.2.1.iff fun a => ⟨fun z => ⟨i, rfl, z⟩, fun ⟨j, hj, z⟩ => ?_⟩, fun j hj => ?_⟩
    · have hj' : some (P.b i) = some (P.b j) := hj
      cases hj'; exact z
    · have hj' : some (P.b i) = some (P.b j) := hj
      cases hj'; exact h.1
  | .v _ :: ps, v :: vs, o' :: os, 0, o, h, e => by
    simp at e; subst e
    refine ⟨v, rfl, h.1.iff fun a => ⟨fun z => z.elim, fun ⟨j, hj, z⟩ => ?_⟩, fun j hj => ?_⟩
    · cases hj
    · cases hj
  | .b i :: ps, v :: vs, o' :: os, k + 1, o, h, e => by
    obtain ⟨v', a, b, c⟩ := ArgR.at (k := k) h.2.2 (by simpa using e)
    exact ⟨v', by simpa using a, b, c⟩
  | .v _ :: ps, v :: vs, o' :: os, k + 1, o, h, e => by
    obtain ⟨v', a, b, c⟩ := ArgR.at (k := k) h.2 (by simpa using e)
    exact ⟨v', by simpa using a, b, c⟩
  | [], _ :: _, _, _, _, h, _ => h.elim
  | [], [], _ :: _, _, _, h, _ => h.elim
  | .b _ :: _, [], _, _, _, h, _ => h.elim
  | .b _ :: _, _ :: _, [], _, _, h, _ => h.elim
  | .v _ :: _, [], _, _, _, h, _ => h.elim
  | .v _ :: _, _ :: _, [], _, _, h, _ => h.elim
theorem bs_mem : ∀ {ps : List P} {k i : Nat}, ps[k]? = some (.b i) → i ∈ bs ps
  | .b j :: ps, 0, i, h => by
    have h' : some (P.b j) = some (P.b i) := h
    cases h'; exact List.mem_cons_self
  | .v _ :: _, 0, _, h => by cases h
  | .b j :: ps, k + 1, i, h => List.mem_cons_of_mem _ (bs_mem (ps := ps) (k := k) h)
  | .v _ :: ps, k + 1, i, h => bs_mem (ps := ps) (k := k) h
theorem bs_inj : ∀ {ps : List P} {k l i : Nat}, (bs ps).Nodup → ps[k]? = some (.b i) → ps[l]? = some (.b i) → k = l
  | .b j :: ps, 0, 0, _, _, _, _ => rfl
  | .b j :: ps, 0, l + 1, i, n, h1, h2 => by
    have h' : some (P.b j) = some (P.b i) := h1
    cases h'
    exact absurd (bs_mem (ps := ps) (k := l) h2) (List.nodup_cons.mp n).1
  | .b j :: ps, k + 1, 0, i, n, h1, h2 => by
    have h' : some (P.b j) = some (P.b i) := h2
    cases h'
    exact absurd (bs_mem (ps := ps) (k := k) h1) (List.nodup_cons.mp n).1
  | .b j :: ps, k + 1, l + 1, i, n, h1, h2 => congrArg (· + 1) (bs_inj (ps := ps) (List.nodup_cons.mp n).2 h1 h2)
  | .v _ :: ps, 0, _, _, _, h1, _ => by cases h1
  | .v _ :: ps, _ + 1, 0, _, _, _, h2 => by cases h2
  | .v _ :: ps, k + 1, l + 1, i, n, h1, h2 => congrArg (· + 1) (bs_inj (ps := ps) n h1 h2)
  | [], _, _, _, _, h, _ => by simp at h
theorem wb_length : ∀ (ps : List P) (os : List O) (e : Sl), (wb ps os e).length = e.length
  | .b i :: ps, o :: os, e => by unfold wb; rw [List.length_set, wb_length ps os e]
  | .v _ :: ps, _ :: os, e => by unfold wb; exact wb_length ps os e
  | [], _, _ => by unfold wb; rfl
  | .b _ :: _, [], _ => by unfold wb; rfl
  | .v _ :: _, [], _ => by unfold wb; rfl
theorem wb_at : ∀ {ps : List P} {os : List O} {e : Sl} {j : Nat} {o : O}, os.length = ps.length → (wb ps os e)[j]? = some (some o) → (∃ k : Nat, ps[k]? = some (P.b j) ∧ os[k]? = some o) ∨ ((∀ k : Nat, ps[k]? ≠ some (P.b j)) ∧ e[j]? = some (some o))
  | [], os, e, j, o, _, h => .inr ⟨fun k z => by simp at z, by unfold wb at h; exact h⟩
  | .b i :: ps, [], _, _, _, l, _ => by simp at l
  | .v _ :: ps, [], _, _, _, l, _ => by simp at l
  | .b i :: ps, o' :: os, e, j, o, l, h => by
    unfold wb at h
    by_cases hj : i = j
    · subst hj
      by_cases hl : i < (wb ps os e).length
      · rw [List.getElem?_set_self hl] at h
        cases h
        exact .inl ⟨0, rfl, rfl⟩
      · rw [List.getElem?_eq_none (by rw [List.length_set]; omega)] at h; cases h
    · rw [List.getElem?_set_ne hj] at h
      rcases wb_at (ps := ps) (os := os) (by simpa using l) h with ⟨k, a, b⟩ | ⟨a, b⟩
      · exact .inl ⟨k + 1, a, b⟩
      · refine .inr ⟨fun k z => ?_, b⟩
        cases k with
        | zero =>
          have z' : some (P.b i) = some (P.b j) := z
          cases z'; exact hj rfl
        | succ k => exact a k z
  | .v _ :: ps, o' :: os, e, j, o, l, h => by
    unfold wb at h
    rcases wb_at (ps := ps) (os := os) (by simpa using l) h with ⟨k, a, b⟩ | ⟨a, b⟩
    · exact .inl ⟨k + 1, a, b⟩
    · refine .inr ⟨fun k z => ?_, b⟩
      cases k with
      | zero => cases z
      | succ k => exact a k z
/-- what the callee is handed -/
theorem ArgR.rp {ps : List P} {vs : List V} {os : List O} (h : ArgR K B H σ S ps vs os) (r : Rp K B H σ e S) (n : (bs ps).Nodup) : Rp K B H (vs.map some) (os.map some) (argS ps S) := by
  obtain ⟨l1, l2⟩ := h.len
  refine ⟨by rw [List.length_map, List.length_map, l1, l2], r.ex, fun k o ho => ?_, fun k l a ⟨i, h1, h2⟩ ⟨j, h3, h4⟩ => ?_, fun k a ⟨i, h1, h2⟩ => r.own i a h2⟩
  · rw [List.getElem?_map] at ho
    obtain ⟨o', ho, eo⟩ := Option.map_eq_some_iff.mp ho
    cases eo
    obtain ⟨v, a, b, _⟩ := h.at ho
    exact ⟨v, by rw [List.getElem?_map, a]; rfl, b⟩
  · obtain rfl := r.dis i j a h2 h4
    exact bs_inj n h1 h3
theorem tot_argS {ps : List P} {a : Addr} (h : tot (argS ps S) a) : tot S a := let ⟨_, i, _, z⟩ := h; ⟨i, z⟩
/-- behind the call: the slots handed on as the callee left them, the others as they were -/
def retS (ps : List P) (S S1 : Nat → Addr → Prop) : Nat → Addr → Prop := fun j a => (∃ k : Nat, ps[k]? = some (P.b j) ∧ S1 k a) ∨ ((∀ k : Nat, ps[k]? ≠ some (P.b j)) ∧ S j a)
theorem back_rp {ps : List P} {vs : List V} {os os' : List O} {B1 H1 : Hp} {S1 : Nat → Addr → Prop} {T : Addr → Prop} (h : ArgR K B H σ S ps vs os) (r : Rp K B H σ e S) (n : (bs ps).Nodup) (l : os'.length = ps.length)
    (r1 : Rp K B1 H1 (vs.map some) (os'.map some) S1) (f : Fr B H (tot (argS ps S)) B1 H1 (fun a => T a ∨ tot S1 a)) :
    Rp K B1 H1 σ (wb ps os' e) (retS ps S S1) ∧ Fr B H (tot S) B1 H1 (fun a => T a ∨ tot (retS ps S S1) a) ∧ ∀ a, T a → (∀ k, ¬ S1 k a) → ¬ tot (retS ps S S1) a := by
  obtain ⟨l1, l2⟩ := h.len
  have fr0 : ∀ j : Nat, (∀ k : Nat, ps[k]? ≠ some (P.b j)) → ∀ a, S j a → ¬ tot (argS ps S) a := fun j hj a ha ⟨k, i, h1, h2⟩ => by
    obtain rfl := r.dis j i a ha h2
    exact hj k h1
  have nt : ∀ j : Nat, (∀ k : Nat, ps[k]? ≠ some (P.b j)) → ∀ a, S j a → ¬ (T a ∨ tot S1 a) := fun j hj a ha z => by
    rcases f.n a z with y | y
    · exact fr0 j hj a ha y
    · obtain ⟨_, u, hu⟩ := r.own j a ha
      rw [hu] at y; cases y
  refine ⟨⟨by rw [wb_length]; exact r.len, r1.ex, fun j o ho => ?_, fun i j a h1 h2 => ?_, fun j a h1 => ?_⟩, ⟨f.b, fun a o q hs => f.k a o q fun z => hs (tot_argS z), fun a z => ?_, fun a o q => (f.c a o q).elim .inl fun z => .inr (z.elim (fun z => .inl (tot_argS z)) .inr), f.a⟩, fun a ht hn ⟨j, z⟩ => ?_⟩
  · rcases wb_at l ho with ⟨k, a, b⟩ | ⟨a, b⟩
    · obtain ⟨v, hv, ro⟩ := r1.rep k o (by rw [List.getElem?_map, b]; rfl)
      rw [List.getElem?_map] at hv
      obtain ⟨v', hv, ev⟩ := Option.map_eq_some_iff.mp hv
      cases ev
      have hk : k < os.length := by
        have := (List.getElem?_eq_some_iff.mp b).1
        omega
      obtain ⟨v2, e1, _, e2⟩ := h.at (List.getElem?_eq_getElem hk)
      rw [hv] at e1; cases e1
      refine ⟨v, e2 j a, ro.iff fun x => ⟨fun z => .inl ⟨k, a, z⟩, fun z => ?_⟩⟩
      rcases z with ⟨k', a', z⟩ | ⟨a', z⟩
      · rw [bs_inj n a a']; exact z
      · exact absurd a (a' k)
    · obtain ⟨v, hv, ro⟩ := r.rep j o b
      obtain ⟨ro2, _, _⟩ := ro.frame (r.own j) (fr0 j a) f
      refine ⟨v, hv, ro2.iff fun x => ⟨fun z => .inr ⟨a, z⟩, fun z => ?_⟩⟩
      rcases z with ⟨k', a', z⟩ | ⟨a', z⟩
      · exact absurd a' (a k')
      · exact z
  · rcases h1 with ⟨k, a1, z1⟩ | ⟨a1, z1⟩ <;> rcases h2 with ⟨k', a2, z2⟩ | ⟨a2, z2⟩
    · obtain rfl := r1.dis k k' a z1 z2
      rw [a1] at a2; cases a2; rfl
    · exact absurd (.inr ⟨k, z1⟩) (nt j a2 a z2)
    · exact absurd (.inr ⟨k', z2⟩) (nt i a1 a z1)
    · exact r.dis i j a z1 z2
  · rcases h1 with ⟨k, a1, z1⟩ | ⟨a1, z1⟩
    · exact r1.own k a z1
    · obtain ⟨v, hv, ro⟩ : True ∧ True ∧ True := ⟨trivial, trivial, trivial⟩
      obtain ⟨b0, u, hu⟩ := r.own j a z1
      have hk := f.k a u hu (fr0 j a1 a z1)
      refine ⟨?_, u, hk⟩
      cases q : B1 a with
      | none => rfl
      | some w =>
        rcases f.c a w q with z | z | z
        · rw [b0] at z; cases z
        · exact absurd z (fr0 j a1 a z1)
        · rw [hu] at z; cases z
  · rcases z with z | ⟨j, z⟩
    · rcases f.n a (.inl z) with y | y
      · exact .inl (tot_argS y)
      · exact .inr y
    · rcases z with ⟨k, a1, z1⟩ | ⟨a1, z1⟩
      · rcases f.n a (.inr ⟨k, z1⟩) with y | y
        · exact .inl (tot_argS y)
        · exact .inr y
      · exact .inl ⟨j, z1⟩
  · rcases z with ⟨k, a1, z1⟩ | ⟨a1, z1⟩
    · exact hn k z1
    · exact nt j a1 a z1 (.inl ht)
/-- default values behind the written arguments -/
theorem ArgR.dv : ∀ {ps : List P} {vs : List V} {os : List O} {ws : List V} {ds : List D}, ArgR K B H σ S ps vs os → RepL K B ws ds → ArgR K B H σ S (ps ++ ds.map fun d => P.v (eC d)) (vs ++ ws) (os ++ ds.map O.fr)
  | [], [], [], [], [], _, .nil => trivial
  | [], [], [], _ :: _, _ :: _, h, .cons r rs => ⟨⟨r, fun _ z => z⟩, ArgR.dv (ps := []) (vs := []) (os := []) trivial rs⟩
  | .b i :: ps, v :: vs, o :: os, ws, ds, h, r => ⟨h.1, h.2.1, ArgR.dv h.2.2 r⟩
  | .v _ :: ps, v :: vs, o :: os, ws, ds, h, r => ⟨h.1, ArgR.dv h.2 r⟩
  | [], _ :: _, _, _, _, h, _ => h.elim
  | [], [], _ :: _, _, _, h, _ => h.elim
  | .b _ :: _, [], _, _, _, h, _ => h.elim
  | .b _ :: _, _ :: _, [], _, _, h, _ => h.elim
  | .v _ :: _, [], _, _, _, h, _ => h.elim
  | .v _ :: _, _ :: _, [], _, _, h, _ => h.elim
theorem bs_dv : ∀ (ps : List P) (ds : List D), bs (ps ++ ds.map fun d => P.v (eC d)) = bs ps
  | [], [] => rfl
  | [], d :: ds => by show bs (ds.map fun d => P.v (eC d)) = []; exact bs_dv [] ds
  | .b i :: ps, ds => congrArg (i :: ·) (bs_dv ps ds)
  | .v _ :: ps, ds => bs_dv ps ds
theorem wb_dv : ∀ (ps : List P) (ds : List D) (os : List O) (e : Sl), wb (ps ++ ds.map fun d => P.v (eC d)) os e = wb ps os e
  | [], [], os, e => rfl
  | [], d :: ds, [], e => rfl
  | [], d :: ds, o :: os, e => by
    show wb (ds.map fun d => P.v (eC d)) os e = e
    exact wb_dv [] ds os e
  | .b i :: ps, ds, [], e => rfl
  | .v _ :: ps, ds, [], e => rfl
  | .b i :: ps, ds, o :: os, e => by
    show (wb (ps ++ ds.map fun d => P.v (eC d)) os e).set i (some o) = (wb ps os e).set i (some o)
    rw [wb_dv ps ds os e]
  | .v _ :: ps, ds, o :: os, e => by
    show wb (ps ++ ds.map fun d => P.v (eC d)) os e = wb ps os e
    rw [wb_dv ps ds os e]
end

/-- a def of the module, by its name: what it computes -/
structure Cl (P : Program) (w : World) (K : PySem.W.Frag) (mg : Str → Option Value) (base : Heap) (k : Nat) (x : Str) (n : Nat) (F : Fn) (dv : List D) : Prop where
  ex : ∃ (f : Addr) (fd : FuncData) (ps : List Str) (ds : List Value) (dvs : List V), ps.length = n ∧ FnOk P w K mg base (L2.CX P w) k f fd ps (spD K mg ps.length F) ∧ mg x = some (.ref f) ∧ PySem.W.keepIn K (.ref f) = true ∧ Binds K fd ps ds ∧ Vals dvs ds ∧ ∀ B, RepL K B dvs dv
theorem Cl.mono {P : Program} {w : World} {K : PySem.W.Frag} {mg : Str → Option Value} {base : Heap} {k l n : Nat} {x : Str} {F : Fn} {dv : List D} (h : Cl P w K mg base k x n F dv) (hl : k ≤ l) : Cl P w K mg base l x n F dv := by
  obtain ⟨f, fd, ps, ds, dvs, h0, h1, h2⟩ := h.ex
  exact ⟨f, fd, ps, ds, dvs, h0, h1.mono hl, h2⟩
section
variable {X : Cx} {W : WX} {x : Str} {p pos : Pos} {e : Expr} {es : List Expr} {k j n : Nat} {F : Fn} {dv : List D} {ps : List P}
theorem call_core {H : Hp} {σ : St} {Q : VK} {dvs : List V} (hl : dvs.length = dv.length) (hn : n = ps.length + dv.length) (nd : (bs ps).Nodup) (hdv : ∀ B, RepL X.K B dvs dv) (h : tE X.K X.mg W (eCall F ps dv) σ H Q) :
    tPs X.K X.mg W ps σ H fun vs H1 => spD X.K X.mg n F (vs ++ dvs) H1 Q (WE W σ) := by
  obtain ⟨B, e, S, r, h⟩ := h
  refine cops_run ps _ r (h.bind.imp (fun os e' h vs B' H' S' r' ar f => ?_) fun _ _ z => z)
  have ar2 := ar.dv (hdv B')
  have nd2 : (bs (ps ++ dv.map fun d => P.v (eC d))).Nodup := by rw [bs_dv]; exact nd
  obtain ⟨l1, l2⟩ := ar2.len
  have lp : (ps ++ dv.map fun d => P.v (eC d)).length = ps.length + dv.length := by rw [List.length_append, List.length_map]
  refine ⟨by rw [l1, lp, hn], B', _, _, ar2.rp r' nd2, ?_⟩
  have h0 : Post (match F (os ++ dv.map .fr) with
    | none => none
    | some (.ok o os') => some (Ro.ok o (wb ps os' e'))
    | some (.ex x os') => some (.ex x (wb ps os' e'))) (fun o e' => ∀ v B' H' S' T, Vl X.K B' H' σ e' S' v o T → Fr B H (tot S) B' H' (fun a => T a ∨ tot S' a) → Q v H') (fun x e' => ExE X.K X.mg W B H S σ x e') := h
  cases q : F (os ++ dv.map .fr) with
  | none => rw [q] at h0; exact h0.elim
  | some rf =>
    rw [q] at h0
    cases rf with
    | ok o os' =>
      intro v B1 H1 S1 T lo vl f1
      have lo' : os'.length = (ps ++ dv.map fun d => P.v (eC d)).length := by rw [lo, l1]
      obtain ⟨r3, f3, dj⟩ := back_rp ar2 r' nd2 lo' vl.rp f1
      rw [wb_dv] at r3
      have h' : ∀ v B' H' S' T, Vl X.K B' H' σ (wb ps os' e') S' v o T → Fr B H (tot S) B' H' (fun a => T a ∨ tot S' a) → Q v H' := h0
      exact h' v B1 H1 _ T ⟨r3, vl.ro, vl.own, fun a ha => dj a ha fun k z => vl.dj a ha ⟨k, z⟩⟩ (f.trans f3)
    | ex x os' =>
      intro C d fs B1 H1 S1 lo hC r1 hd hf hdn f1
      have lo' : os'.length = (ps ++ dv.map fun d => P.v (eC d)).length := by rw [lo, l1]
      obtain ⟨r3, f3, _⟩ := back_rp (T := noS) ar2 r' nd2 lo' r1 (f1.imp (fun _ z => z) fun a z => z.elim (fun z => z.elim) id)
      rw [wb_dv] at r3
      have h' : ExE X.K X.mg W B H S σ x (wb ps os' e') := h0
      exact h' C d fs B1 H1 _ hC r3 hd hf (f.back hdn) ((f.trans f3).imp (fun _ z => z) fun _ z => .inr z)
theorem d_call (C : Cl X.prog X.w X.K X.mg X.base k x n F dv) (hr : Room j X.A) (tk : Takes X W) (ha : PA X (e :: es) (tPs X.K X.mg W ps)) (hk : k ≤ j := by decide) (hg : Gl X x := by rfl) (hn : n = ps.length + dv.length := by rfl) (nd : (bs ps).Nodup := by decide)
    (hdb : (x == ("__debug__" : Str)) = false := by decide) (he : starEach (e :: es) X.env = (false, eval e X.env) :: starEach es X.env := by rfl) (hpl : (backTo pos (starEach es X.env)).any (·.1) = false := by rfl) :
    PE X (.Call (.Name x p) (e :: es) [] pos) (tE X.K X.mg W (eCall F ps dv)) := by
  obtain ⟨f, fd, pn, ds, dvs, h0, h1, h2, h3, h4, h5, h6⟩ := C.ex
  have hl : dvs.length = dv.length := (h6 fun _ => none).length
  refine ⟨fun pins s σ H Q I h => ?_⟩
  refine (pe_callSD (t := tPs X.K X.mg W ps) (E := WE W) h1 (hr.mono hk) hg h2 h3 h4 h5 (fun σ => passAt tk σ) ha hdb he hpl).run pins s σ H Q I ?_
  exact call_core hl (h0.trans hn) nd h6 h
end
end Dn

namespace Dn
open PySem L2
open PyProof.Rows (envOfC)
open Evl (Ex)

/-! ## 10. A def by its body -/
/-- what the parameters hold behind the body: those of ks as they stand, the others as they came (frozen) -/
def finO (ks : List Nat) : Nat → List O → Sl → Option (List O)
  | _, [], _ => some []
  | k, o :: os, e => match (if k ∈ ks then (match e[k]? with | some (some o') => some o' | _ => none) else (match o with | .fr d => some (.fr d) | _ => none)) with
    | some o' => (finO ks (k + 1) os e).map (o' :: ·)
    | none => none
def mkF (m : Nat) (ks : List Nat) (g : M Fl) : Fn := fun os => match g (os.map some ++ List.replicate (m - os.length) none) with
  | some (.ok fl e') => match fl with
    | .ret o => (finO ks 0 os e').map (RF.ok o)
    | .next => (finO ks 0 os e').map (RF.ok (.fr .non))
    | _ => none
  | some (.ex x e') => (finO ks 0 os e').map (RF.ex x)
  | none => none
theorem finO_at {ks : List Nat} : ∀ {os : List O} {j : Nat} {e : Sl} {os' : List O}, finO ks j os e = some os' → os'.length = os.length ∧ ∀ k o', os'[k]? = some o' → (j + k ∈ ks ∧ e[j + k]? = some (some o')) ∨ (j + k ∉ ks ∧ os[k]? = some o' ∧ ∃ d, o' = .fr d)
  | [], j, e, os', h => by
    cases h
    exact ⟨rfl, fun k o' z => by simp at z⟩
  | o :: os, j, e, os', h => by
    unfold finO at h
    split at h
    · rename_i o1 h1
      obtain ⟨os1, h2, rfl⟩ := Option.map_eq_some_iff.mp h
      obtain ⟨l, at_⟩ := finO_at h2
      refine ⟨by rw [List.length_cons, List.length_cons, l], fun k o' z => ?_⟩
      cases k with
      | zero =>
        have z' : some o1 = some o' := z
        cases z'
        by_cases hj : j ∈ ks
        · rw [if_pos hj] at h1
          refine .inl ⟨hj, ?_⟩
          split at h1
          · rename_i o2 h3
            cases h1; exact h3
          · cases h1
        · rw [if_neg hj] at h1
          refine .inr ⟨hj, ?_⟩
          split at h1
          · cases h1; exact ⟨rfl, _, rfl⟩
          · cases h1
      | succ k =>
        have := at_ k o' z
        rw [show j + (k + 1) = j + 1 + k by omega]
        exact this
    · cases h
section
variable {P : Program} {w : World} {K : PySem.W.Frag} {mg : Str → Option Value} {base : Heap}
theorem fin_rp {B H : Hp} {vs : List V} {os os' : List O} {S : Nat → Addr → Prop} {ks : List Nat} {B' H' : Hp} {σ σ' : St} {e' : Sl} {S' : Nat → Addr → Prop} (r : Rp K B H (vs.map some) (os.map some) S) (hf : finO ks 0 os e' = some os') (hσ : ∀ k : Nat, k < vs.length → σ[k]? = (vs.map some)[k]?)
    (r' : Rp K B' H' σ' e' S') (k' : Kp ks σ σ') (hb : Ex B B') : os'.length = vs.length ∧ Rp K B' H' (vs.map some) (os'.map some) (fun k => if k ∈ ks then S' k else noS) := by
  obtain ⟨l, at_⟩ := finO_at hf
  have l2 : vs.length = os.length := by have := r.len; rwa [List.length_map, List.length_map] at this
  refine ⟨by omega, ⟨by rw [List.length_map, List.length_map]; omega, r'.ex, fun k o ho => ?_, fun i j a h1 h2 => ?_, fun i a h1 => ?_⟩⟩
  · rw [List.getElem?_map] at ho
    obtain ⟨o1, ho, e1⟩ := Option.map_eq_some_iff.mp ho
    cases e1
    have hk : k < vs.length := by have := (List.getElem?_eq_some_iff.mp ho).1; omega
    rcases at_ k o ho with ⟨a, b⟩ | ⟨a, b, d, rfl⟩
    · rw [Nat.zero_add] at a b
      obtain ⟨v, hv, ro⟩ := r'.rep k o b
      rw [k' k a, hσ k hk] at hv
      exact ⟨v, hv, by rw [if_pos a]; exact ro⟩
    · rw [Nat.zero_add] at a
      obtain ⟨v, hv, ro⟩ := r.rep k _ (show (os.map some)[k]? = some (some (O.fr d)) by rw [List.getElem?_map, b]; rfl)
      exact ⟨v, hv, by rw [if_neg a]; exact ⟨ro.1.mono hb, fun _ z => z⟩⟩
  · by_cases hi : i ∈ ks
    · by_cases hj : j ∈ ks
      · rw [if_pos hi] at h1; rw [if_pos hj] at h2; exact r'.dis i j a h1 h2
      · rw [if_neg hj] at h2; exact h2.elim
    · rw [if_neg hi] at h1; exact h1.elim
  · by_cases hi : i ∈ ks
    · rw [if_pos hi] at h1; exact r'.own i a h1
    · rw [if_neg hi] at h1; exact h1.elim
theorem tot_fin {ks : List Nat} {S' : Nat → Addr → Prop} {a : Addr} (h : tot (fun k => if k ∈ ks then S' k else noS) a) : tot S' a := by
  obtain ⟨k, h⟩ := h
  by_cases hk : k ∈ ks
  · rw [if_pos hk] at h; exact ⟨k, h⟩
  · rw [if_neg hk] at h; exact h.elim
/-- a def as it stands behind the top, its defaults aside -/
structure FunX (K : PySem.W.Frag) (x qual : Str) (st : Stmt) (f : Addr) (fd : FuncData) : Prop where
  ex : ∃ (oc : Value) (od : Option Addr) (dV kV doc pm : Value) (an : Option Addr) (cdv ct : Value) (osl : Array (Option Value)),
    fd = PySem.W.fnOf x qual (defArgs st) (defBody st) (defScope st) dV kV doc pm an cdv ct ∧ K.lookup f = some ⟨oc, od, .func fd, osl⟩ ∧ PySem.W.codeIn K cdv qual = true
theorem fun_x {x qual : Str} {st : Stmt} {f : Addr} {fd : FuncData} (F : Fun K x qual st f fd) : FunX K x qual st f fd := by
  obtain ⟨oc, od, kV, doc, pm, an, cdv, ct, osl, h⟩ := F.ex
  exact ⟨⟨oc, od, .none, kV, doc, pm, an, cdv, ct, osl, h⟩⟩
theorem FunX.okX {x qual : Str} {st : Stmt} {f : Addr} {fd : FuncData} {N ps : List Str} {k : Nat} {sp : Sp} (F : FunX K x qual st f fd) (S : FnScope N ps (defScope st)) (len : ∀ vs H Q E, sp vs H Q E → vs.length = ps.length)
    (hbody : ∀ (cdv : Value) (A : Around) (outer : List PySem.Env) (s : Shared) (H : Hp) (vs : List V) (Q : VK) (E : XK), Room k (A.deeper (envOfC qual (defScope st) s.heap.objs.size f cdv)) → sp vs H Q E →
      ∃ t, PSs (cxOf (L2.CX P w) P w K mg base N qual (defScope st) f cdv A outer s H E) (defBody st) t ∧ t { nx := fun _ H' => Q .non H', rt := Q } (start N vs) H) : FnOk P w K mg base (L2.CX P w) (k + 1) f fd ps sp := by
  obtain ⟨oc, od, dV, kV, doc, pm, an, cdv, ct, osl, rfl, lk, hcd⟩ := F.ex
  exact fn_of lk hcd S len fun A outer s H vs Q E hr hsp => hbody cdv A outer s H vs Q E hr hsp
/-- THE RULE of a def -/
theorem fn_den {x qual : Str} {st : Stmt} {f : Addr} {fd : FuncData} {N ps : List Str} {k : Nat} {ks : List Nat} {g : M Fl} (F : FunX K x qual st f fd) (Sc : FnScope N ps (defScope st))
    (hb : ∀ (cdv : Value) (A : Around) (outer : List PySem.Env) (s : Shared) (H : Hp) (E : XK), Room k (A.deeper (envOfC qual (defScope st) s.heap.objs.size f cdv)) →
      Takes (cxOf (L2.CX P w) P w K mg base N qual (defScope st) f cdv A outer s H E) (fun cls d _ H => E cls d H) →
      PassesOwn (model P w) (A.deeper (envOfC qual (defScope st) s.heap.objs.size f cdv)) (envOfC qual (defScope st) s.heap.objs.size f cdv) (cxOf (L2.CX P w) P w K mg base N qual (defScope st) f cdv A outer s H E).xe →
      PSs (cxOf (L2.CX P w) P w K mg base N qual (defScope st) f cdv A outer s H E) (defBody st) (tS K mg (fun cls d _ H => E cls d H) ks g)) :
    FnOk P w K mg base (L2.CX P w) (k + 1) f fd ps (spD K mg ps.length (mkF N.length ks g)) := by
  refine F.okX Sc (fun vs H Q E h => h.1) (fun cdv A outer s H vs Q E hr h => ⟨_, hb cdv A outer s H E hr (takes_of rfl rfl rfl rfl) (passes_of rfl), ?_⟩)
  obtain ⟨hl, B, os, S, r, h⟩ := h
  have l2 : vs.length = os.length := by have := r.len; rwa [List.length_map, List.length_map] at this
  have hpl : ps.length ≤ N.length := by have := congrArg List.length Sc.pre; rw [List.length_take] at this; omega
  have hσ : ∀ k : Nat, k < vs.length → (L2.start N vs)[k]? = (vs.map some)[k]? := fun k hk => by
    unfold L2.start
    rw [List.getElem?_append_left (by rw [List.length_map]; exact hk)]
  have r0 : Rp K B H (L2.start N vs) (os.map some ++ List.replicate (N.length - os.length) none) S := by
    refine ⟨by unfold L2.start; rw [List.length_append, List.length_append, List.length_map, List.length_map, List.length_replicate, List.length_replicate]; omega, r.ex, fun i o ho => ?_, r.dis, r.own⟩
    by_cases hi : i < os.length
    · rw [List.getElem?_append_left (by rw [List.length_map]; exact hi)] at ho
      obtain ⟨v, a, b⟩ := r.rep i o ho
      exact ⟨v, by rw [hσ i (by omega)]; exact a, b⟩
    · rw [List.getElem?_append_right (by rw [List.length_map]; omega), List.length_map, List.getElem?_replicate] at ho
      split at ho <;> cases ho
  refine ⟨B, _, S, r0, ?_⟩
  unfold mkF at h
  cases q : g (os.map some ++ List.replicate (N.length - os.length) none) with
  | none => rw [q] at h; exact h.elim
  | some ro =>
    rw [q] at h
    cases ro with
    | ex x e' =>
      dsimp only at h
      cases qf : finO ks 0 os e' with
      | none => rw [qf] at h; exact h.elim
      | some os' =>
        rw [qf] at h
        intro C d fs σ' B' H' S' hC r' hd hx hdn k' f'
        obtain ⟨l3, r2⟩ := fin_rp r qf hσ r' k' f'.b
        exact (show RetP K mg B H (tot S) vs Q E (some (.ex x os')) from h) C d fs B' H' _ l3 hC r2 hd hx hdn (f'.imp (fun _ z => z) fun _ z => tot_fin z)
    | ok fl e' =>
      cases fl with
      | brk => exact h.elim
      | cnt => exact h.elim
      | next =>
        dsimp only at h
        cases qf : finO ks 0 os e' with
        | none => rw [qf] at h; exact h.elim
        | some os' =>
          rw [qf] at h
          intro σ' B' H' S' r' k' f'
          obtain ⟨l3, r2⟩ := fin_rp r qf hσ r' k' f'.b
          exact (show RetP K mg B H (tot S) vs Q E (some (.ok (.fr .non) os')) from h) .non B' H' _ noS l3 (.fr r2 .non) (f'.imp (fun _ z => z) fun _ z => z.elim (fun z => z.elim) tot_fin)
      | ret o =>
        dsimp only at h
        cases qf : finO ks 0 os e' with
        | none => rw [qf] at h; exact h.elim
        | some os' =>
          rw [qf] at h
          intro v σ' B' H' S' T vl k' f'
          obtain ⟨l3, r2⟩ := fin_rp r qf hσ vl.rp k' f'.b
          exact (show RetP K mg B H (tot S) vs Q E (some (.ok o os')) from h) v B' H' _ T l3 ⟨r2, vl.ro, vl.own, fun a ha z => vl.dj a ha (tot_fin z)⟩ (f'.imp (fun _ z => z) fun _ z => z.elim .inl fun z => .inr (tot_fin z))
end

/-! ## 11. Data as the library has it -/
mutual
def D.py : D → PyData
  | .non => .none
  | .bl b => .bool b
  | .int i => .int i
  | .str s => .str s
  | .lst xs => .list (D.pys xs)
  | .tup xs => .tuple (D.pys xs)
  | .scr ns => .list (ns.map PyData.int)
  | .opq => .str ⟨#[1114112]⟩
  | .dct _ _ => .str ⟨#[1114112]⟩
  | .ins _ _ _ => .str ⟨#[1114112]⟩
def D.pys : List D → List PyData
  | [] => []
  | x :: xs => x.py :: D.pys xs
end
mutual
/-- all of it is known -/
def D.nx : D → Bool
  | .non => true
  | .bl _ => true
  | .int _ => true
  | .str _ => true
  | .lst xs => D.nxs xs
  | .tup xs => D.nxs xs
  | .scr _ => true
  | .opq => false
  | .dct _ _ => false
  | .ins _ _ _ => false
def D.nxs : List D → Bool
  | [] => true
  | x :: xs => D.nx x && D.nxs xs
end
mutual
theorem D.nx_of : ∀ {d : D}, d.py.canLay0 = true → d.nx = true
  | .non, _ => rfl
  | .bl _, _ => rfl
  | .int _, _ => rfl
  | .str _, _ => rfl
  | .lst xs, h => by rw [D.nx]; exact D.nxs_of (by rw [D.py] at h; exact h)
  | .tup xs, h => by rw [D.nx]; exact D.nxs_of (by rw [D.py] at h; exact h)
  | .scr _, _ => rfl
  | .opq, h => by
    have : PyData.canLay0 (.str ⟨#[1114112]⟩) = false := by decide +kernel
    rw [D.py, this] at h
    cases h
  | .dct _ _, h => by
    have : PyData.canLay0 (.str ⟨#[1114112]⟩) = false := by decide +kernel
    rw [D.py, this] at h
    cases h
  | .ins _ _ _, h => by
    have : PyData.canLay0 (.str ⟨#[1114112]⟩) = false := by decide +kernel
    rw [D.py, this] at h
    cases h
theorem D.nxs_of : ∀ {ds : List D}, PyData.canLayAll0 (D.pys ds) = true → D.nxs ds = true
  | [], _ => rfl
  | x :: xs, h => by
    rw [D.pys] at h
    have h' : (x.py.canLay0 && PyData.canLayAll0 (D.pys xs)) = true := h
    rw [Bool.and_eq_true] at h'
    rw [D.nxs, D.nx_of h'.1, D.nxs_of h'.2]; rfl
end
theorem D.pys_map : ∀ xs : List D, D.pys xs = xs.map D.py
  | [] => rfl
  | x :: xs => by rw [D.pys, List.map_cons, D.pys_map xs]
section
variable {K : PySem.W.Frag} {B H : Hp}
theorem dp_ints : ∀ ns : List Int, DpAll K H (ns.map V.int) (ns.map PyData.int)
  | [] => .nil
  | n :: ns => .cons (.int n) (dp_ints ns)
mutual
theorem Rep.dp : ∀ {v : V} {d : D}, Rep K H v d → d.nx = true → Dp K H v d.py
  | _, _, .non, _ => by rw [D.py]; exact .non
  | _, _, .bl b, _ => by rw [D.py]; exact .bl b
  | _, _, .int i, _ => by rw [D.py]; exact .int i
  | _, _, .str x, _ => by rw [D.py]; exact .str x
  | _, _, .lst h hs, n => by rw [D.py]; exact .lst (Evl.sq_of h) (RepL.dp hs (by rw [D.nx] at n; exact n))
  | _, _, .tup h hs, n => by rw [D.py]; exact .tup h (RepL.dp hs (by rw [D.nx] at n; exact n))
  | _, _, .scr h, _ => by rw [D.py]; exact .lst h (dp_ints _)
  | _, _, .opq _, n => by rw [D.nx] at n; cases n
  | _, _, .dct _ _ _, n => by rw [D.nx] at n; cases n
  | _, _, .ins _ _ _ _, n => by rw [D.nx] at n; cases n
theorem RepL.dp : ∀ {vs : List V} {ds : List D}, RepL K H vs ds → D.nxs ds = true → DpAll K H vs (D.pys ds)
  | _, _, .nil, _ => by rw [D.pys]; exact .nil
  | _, _, .cons h hs, n => by
    rw [D.nxs, Bool.and_eq_true] at n
    rw [D.pys]; exact .cons (Rep.dp h n.1) (RepL.dp hs n.2)
end
end
def shp (d : D) : Bool := SeqAt.shaped d.py
theorem shp_nx {d : D} (h : shp d = true) : d.nx = true := D.nx_of (by unfold shp SeqAt.shaped at h; rw [Bool.and_eq_true] at h; exact h.1)
def D.eqv (a b : D) : Bool := PyData.eqv a.py b.py

/-! ## 12. Operations -/
@[reducible] def bO (b : Bool) : O := .fr (.bl b)
@[reducible] def iO (i : Int) : O := .fr (.int i)
@[reducible] def sO (s : Str) : O := .fr (.str s)
def mulOk (i j : Int) : Bool := decide (-(2 ^ 64) < i ∧ i < 2 ^ 64) || decide (-(2 ^ 64) < j ∧ j < 2 ^ 64)
def gAdd : List D → Option O
  | [.int i, .int j] => some (iO (i + j))
  | [.str a, .str b] => if a.length + b.length ≤ sizeLine then some (sO (a ++ b)) else none
  | [.lst a, .lst b] => if a.length + b.length ≤ sizeLine then some (.lst (a ++ b)) else none
  | [.tup a, .tup b] => if a.length + b.length ≤ sizeLine then some (.fr (.tup (a ++ b))) else none
  | _ => none
def gSub : List D → Option O
  | [.int i, .int j] => some (iO (i - j))
  | _ => none
def gMul : List D → Option O
  | [.int i, .int j] => if mulOk i j then some (iO (i * j)) else none
  | _ => none
def gDiv : List D → Option O
  | [.int i, .int j] => if j ≠ 0 ∧ j.natAbs < 1073741824 then some (iO (i.fdiv j)) else none
  | _ => none
def gMod : List D → Option O
  | [.int i, .int j] => if j ≠ 0 then some (iO (i.fmod j)) else none
  | _ => none
def gPow : List D → Option O
  | [.int i, .int j] => if 0 ≤ j ∧ j ≤ 1000000 ∧ i.natAbs < 2 ^ 64 then some (iO (i ^ j.toNat)) else none
  | _ => none
def gNeg : List D → Option O
  | [.int i] => some (iO (-i))
  | _ => none
def gEq : List D → Option O
  | [.int i, .int j] => some (bO (decide (i = j)))
  | [.str i, .str j] => some (bO (decide (i = j)))
  | [.bl i, .bl j] => some (bO (decide (i = j)))
  | [a, b] => if shp a && shp b then some (bO (D.eqv a b)) else none
  | _ => none
def gNe : List D → Option O
  | [.int i, .int j] => some (bO (!decide (i = j)))
  | [.str i, .str j] => some (bO (!decide (i = j)))
  | [.bl i, .bl j] => some (bO (!decide (i = j)))
  | [a, b] => if shp a && shp b then some (bO (!D.eqv a b)) else none
  | _ => none
/-- two that can be compared by order -/
def ordOk (a b : D) : Bool := a.nx && b.nx && W.alike a.py b.py && (match a with | .non => false | _ => true) && decide (min a.py.depth b.py.depth ≤ 64)
def gLt : List D → Option O
  | [.int i, .int j] => some (bO (decide (i < j)))
  | [a, b] => if ordOk a b then some (bO (W.dataLt a.py b.py)) else none
  | _ => none
def gGt : List D → Option O
  | [.int i, .int j] => some (bO (decide (j < i)))
  | [a, b] => if ordOk a b then some (bO (W.dataLt b.py a.py)) else none
  | _ => none
def gLe : List D → Option O
  | [.int i, .int j] => some (bO (decide (i ≤ j)))
  | [a, b] => if ordOk a b then some (bO (!W.dataLt b.py a.py)) else none
  | _ => none
def gGe : List D → Option O
  | [.int i, .int j] => some (bO (decide (j ≤ i)))
  | [a, b] => if ordOk a b then some (bO (!W.dataLt a.py b.py)) else none
  | _ => none
def gIsN : List D → Option O
  | [.non, .non] => some (bO true)
  | [.opq, .non] => none
  | [_, .non] => some (bO false)
  | [.bl a, .bl b] => some (bO (decide (a = b)))
  | _ => none
def gNotN : List D → Option O
  | [.non, .non] => some (bO false)
  | [.opq, .non] => none
  | [_, .non] => some (bO true)
  | [.bl a, .bl b] => some (bO (!decide (a = b)))
  | _ => none
def inStr (s z : Str) : Bool := match s.cps.toList with
  | [c] => decide (c ∈ z.cps.toList)
  | _ => !(Builtin.Str.occurrences z s 0 z.length 1).isEmpty
def inL (x : D) (ds : List D) : Bool := ds.any fun y => D.eqv y x
/-- a key of a dict -/
def keyD : D → Option L2.Key
  | .int i => some (.inl i)
  | .str s => some (.inr s)
  | _ => none
/-- what stands at a key -/
def getK : List L2.Key → List D → L2.Key → Option D
  | k :: ks, d :: ds, j => if k = j then some d else getK ks ds j
  | _, _, _ => none
def gIn : List D → Option O
  | [.str s, .str z] => some (bO (inStr s z))
  | [x, .lst ds] => if shp x && shp (.lst ds) then some (bO (inL x ds)) else none
  | [x, .tup ds] => if shp x && shp (.tup ds) then some (bO (inL x ds)) else none
  | [x, .dct ks xs] => (keyD x).map fun k => bO (getK ks xs k).isSome
  | _ => none
def gNotIn : List D → Option O
  | [.str s, .str z] => some (bO (!inStr s z))
  | [x, .lst ds] => if shp x && shp (.lst ds) then some (bO (!inL x ds)) else none
  | [x, .tup ds] => if shp x && shp (.tup ds) then some (bO (!inL x ds)) else none
  | [x, .dct ks xs] => (keyD x).map fun k => bO (!(getK ks xs k).isSome)
  | _ => none
def gIx : List D → Option O
  | [.lst ds, .int i] => (atI ds i).map .fr
  | [.tup ds, .int i] => (atI ds i).map .fr
  | [.scr ns, .int i] => (atI ns i).map iO
  | [.str z, .int i] => if z.length ≤ sizeLine then (atI z.cps.toList i).map fun c => sO ⟨#[c]⟩ else none
  | [.dct ks xs, x] => (keyD x).bind fun k => (getK ks xs k).map .fr
  | _ => none
def gLen : List D → Option O
  | [.lst ds] => some (iO ds.length)
  | [.tup ds] => some (iO ds.length)
  | [.scr ns] => some (iO ns.length)
  | [.str z] => if z.length ≤ sizeLine then some (iO z.length) else none
  | _ => none
def gInt : List D → Option O
  | [.int i] => some (iO i)
  | [.bl b] => some (iO (if b then 1 else 0))
  | [.str z] => if z.length ≤ 640 then (PySem.intText? z).map iO else none
  | _ => none
def gAbs : List D → Option O
  | [.int i] => some (iO (if i < 0 then -i else i))
  | _ => none
def gOrd : List D → Option O
  | [.str z] => if z.length = 1 then some (iO (z.cps.getD 0 0 : Nat)) else none
  | _ => none
def gList : List D → Option O
  | [.lst ds] => some (.lst ds)
  | [.tup ds] => some (.lst ds)
  | [.scr ns] => some (.lst (ns.map .int))
  | _ => none
def gTuple : List D → Option O
  | [.lst ds] => some (.fr (.tup ds))
  | [.tup ds] => some (.fr (.tup ds))
  | _ => none
def boolsD : List D → Option (List Bool)
  | [] => some []
  | .bl b :: ds => (boolsD ds).map (b :: ·)
  | _ => none
def intsD : List D → Option (List Int)
  | [] => some []
  | .int b :: ds => (intsD ds).map (b :: ·)
  | _ => none
def strsD : List D → Option (List Str)
  | [] => some []
  | .str b :: ds => (strsD ds).map (b :: ·)
  | _ => none
def gAll : List D → Option O
  | [.lst ds] => (boolsD ds).map fun bs => bO (bs.all id)
  | _ => none
def gAny : List D → Option O
  | [.lst ds] => (boolsD ds).map fun bs => bO (bs.any id)
  | _ => none
def gSum : List D → Option O
  | [.lst ds] => (intsD ds).map fun bs => iO bs.sum
  | _ => none
end Dn

namespace Dn
open PySem L2
open Evl (Ex)

/-! ## 13. The operations are sound -/
theorem Rd.dp {K : PySem.W.Frag} {B H : Hp} {v : V} {d : D} (h : Rd K B H v d) (hx : Ex B H) (n : d.nx = true) : Dp K H v d.py := (h.rep hx).dp n
theorem snd_or1 {K : PySem.W.Frag} {r r' : R2} {g : List D → Option O} (h : Snd2 K r g) : Snd2 K (fun x y H Q => r x y H Q ∨ r' x y H Q) g := fun B H x y a b o h1 h2 h3 h4 Q q => .inl (h B H x y a b o h1 h2 h3 h4 Q q)

section
variable {X : Cx}
def rAddD (K : PySem.W.Frag) : R2 := fun x y H Q => (rI0 fun i j => .int (i + j)) x y H Q ∨ (fun x y H Q => ∃ i j, x = .str i ∧ y = .str j ∧ i.length + j.length ≤ sizeLine ∧ Q (.str (i ++ j)) H) x y H Q ∨ rCat x y H Q ∨ rCatA K x y H Q
theorem o_add : OpR X (binaryOp .Add) (rAddD X.K) := op_add.or (op_add_str.or (op_cat.or op_catA))
theorem n_add {K : PySem.W.Frag} : Snd2 K (rAddD K) gAdd := fun B H x y a b o hx ha hb hg Q q => by
  cases a <;> cases b <;> simp only [gAdd] at hg <;> (try cases hg)
  · cases ha; cases hb
    exact .inl ⟨_, _, rfl, rfl, q.fr hx (.int _)⟩
  · split at hg
    · cases hg; cases ha; cases hb
      exact .inr (.inl ⟨_, _, rfl, rfl, by assumption, q.fr hx (.str _)⟩)
    · cases hg
  · split at hg
    · rename_i hl
      cases hg
      obtain ⟨p, xs, rfl, h1, h2⟩ := ha
      obtain ⟨p', ys, rfl, h3, h4⟩ := hb
      exact .inr (.inr (.inl ⟨_, _, _, _, rfl, rfl, h1, h3, by rw [h2.length, h4.length]; exact hl, fun l hl => q.newL hx (h2.append h4) hl⟩))
    · cases hg
  · split at hg
    · rename_i hl
      cases hg
      cases ha with
      | tup h1 h2 =>
        cases hb with
        | tup h3 h4 =>
          refine .inr (.inr (.inr ⟨_, _, _, _, rfl, rfl, Evl.ex_t hx h1, Evl.ex_t hx h3, by rw [h2.length, h4.length]; exact hl, fun e => ?_, fun e e2 => ?_, fun e e2 p hp => ?_⟩))
          · subst e; cases h2
            exact q.fr hx (.tup h3 h4)
          · subst e2; cases h4
            rw [List.append_nil] at q
            exact q.fr hx (.tup h1 h2)
          · exact q.newT hx (h2.append h4) hp
    · cases hg
theorem n_sub {K : PySem.W.Frag} : Snd2 K (rI0 fun i j => .int (i - j)) gSub := fun B H x y a b o hx ha hb hg Q q => by
  cases a <;> cases b <;> simp only [gSub] at hg <;> (try cases hg)
  cases ha; cases hb
  exact ⟨_, _, rfl, rfl, q.fr hx (.int _)⟩
theorem n_mul {K : PySem.W.Frag} : Snd2 K (rI CMul fun i j => .int (i * j)) gMul := fun B H x y a b o hx ha hb hg Q q => by
  cases a <;> cases b <;> simp only [gMul] at hg <;> (try cases hg)
  split at hg
  · rename_i hc
    cases hg; cases ha; cases hb
    refine ⟨_, _, rfl, rfl, ?_, q.fr hx (.int _)⟩
    unfold mulOk at hc
    rw [Bool.or_eq_true] at hc
    exact hc.elim (fun z => .inl (of_decide_eq_true z)) fun z => .inr (of_decide_eq_true z)
  · cases hg
theorem n_div {K : PySem.W.Frag} : Snd2 K (rI CDivN fun i j => .int (i.fdiv j)) gDiv := fun B H x y a b o hx ha hb hg Q q => by
  cases a <;> cases b <;> simp only [gDiv] at hg <;> (try cases hg)
  split at hg
  · rename_i hc
    cases hg; cases ha; cases hb
    exact ⟨_, _, rfl, rfl, hc, q.fr hx (.int _)⟩
  · cases hg
theorem n_mod {K : PySem.W.Frag} : Snd2 K (rI (fun _ j => j ≠ 0) fun i j => .int (i.fmod j)) gMod := fun B H x y a b o hx ha hb hg Q q => by
  cases a <;> cases b <;> simp only [gMod] at hg <;> (try cases hg)
  split at hg
  · rename_i hc
    cases hg; cases ha; cases hb
    exact ⟨_, _, rfl, rfl, hc, q.fr hx (.int _)⟩
  · cases hg
theorem n_pow {K : PySem.W.Frag} : Snd2 K (rI CPow fun i j => .int (i ^ j.toNat)) gPow := fun B H x y a b o hx ha hb hg Q q => by
  cases a <;> cases b <;> simp only [gPow] at hg <;> (try cases hg)
  split at hg
  · rename_i hc
    cases hg; cases ha; cases hb
    exact ⟨_, _, rfl, rfl, hc, q.fr hx (.int _)⟩
  · cases hg
theorem n_neg {K : PySem.W.Frag} : Snd1 K (rU fun i => .int (-i)) gNeg := fun B H x a o hx ha hg Q q => by
  cases a <;> simp only [gNeg] at hg <;> (try cases hg)
  cases ha
  exact ⟨_, rfl, q.fr hx (.int _)⟩

/-! ### == and != -/
def rEqO (K : PySem.W.Frag) : R2 := fun x y H Q => rEq x y H Q ∨ rEqD K x y H Q
def rNeO (K : PySem.W.Frag) : R2 := fun x y H Q => rNe x y H Q ∨ rNeD K x y H Q
theorem o_eq (hu : X.A.units + 64 < cLine) : OpR X (compareOp .Eq) (rEqO X.K) := op_eq.or (op_eqD hu)
theorem o_ne (hu : X.A.units + 64 < cLine) : OpR X (compareOp .NotEq) (rNeO X.K) := op_ne.or (op_neD hu)
theorem eq_gen {a b : D} {o : O} (hg : gEq [a, b] = some o) : (∃ i j, a = .int i ∧ b = .int j ∧ o = bO (decide (i = j))) ∨ (∃ i j, a = .str i ∧ b = .str j ∧ o = bO (decide (i = j))) ∨ (∃ i j, a = .bl i ∧ b = .bl j ∧ o = bO (decide (i = j))) ∨ (shp a = true ∧ shp b = true ∧ o = bO (D.eqv a b)) := by
  unfold gEq at hg
  split at hg
  · rename_i h; cases h; cases hg; exact .inl ⟨_, _, rfl, rfl, rfl⟩
  · rename_i h; cases h; cases hg; exact .inr (.inl ⟨_, _, rfl, rfl, rfl⟩)
  · rename_i h; cases h; cases hg; exact .inr (.inr (.inl ⟨_, _, rfl, rfl, rfl⟩))
  · rename_i h
    cases h
    split at hg
    · rename_i hs
      cases hg
      rw [Bool.and_eq_true] at hs
      exact .inr (.inr (.inr ⟨hs.1, hs.2, rfl⟩))
    · cases hg
  · cases hg
theorem ne_gen {a b : D} {o : O} (hg : gNe [a, b] = some o) : (∃ i j, a = .int i ∧ b = .int j ∧ o = bO (!decide (i = j))) ∨ (∃ i j, a = .str i ∧ b = .str j ∧ o = bO (!decide (i = j))) ∨ (∃ i j, a = .bl i ∧ b = .bl j ∧ o = bO (!decide (i = j))) ∨ (shp a = true ∧ shp b = true ∧ o = bO (!D.eqv a b)) := by
  unfold gNe at hg
  split at hg
  · rename_i h; cases h; cases hg; exact .inl ⟨_, _, rfl, rfl, rfl⟩
  · rename_i h; cases h; cases hg; exact .inr (.inl ⟨_, _, rfl, rfl, rfl⟩)
  · rename_i h; cases h; cases hg; exact .inr (.inr (.inl ⟨_, _, rfl, rfl, rfl⟩))
  · rename_i h
    cases h
    split at hg
    · rename_i hs
      cases hg
      rw [Bool.and_eq_true] at hs
      exact .inr (.inr (.inr ⟨hs.1, hs.2, rfl⟩))
    · cases hg
  · cases hg
theorem dec_vi {i j : Int} : decide (V.int i = V.int j) = decide (i = j) := by simp
theorem dec_vs {i j : Str} : decide (V.str i = V.str j) = decide (i = j) := by simp
theorem dec_vb {i j : Bool} : decide (V.bl i = V.bl j) = decide (i = j) := by simp
theorem n_eq {K : PySem.W.Frag} : Snd2 K (rEqO K) gEq := fun B H x y a b o hx ha hb hg Q q => by
  rcases eq_gen hg with ⟨i, j, rfl, rfl, rfl⟩ | ⟨i, j, rfl, rfl, rfl⟩ | ⟨i, j, rfl, rfl, rfl⟩ | ⟨h1, h2, rfl⟩
  · cases ha; cases hb; exact .inl ⟨rfl, by rw [dec_vi]; exact q.fr hx (.bl _)⟩
  · cases ha; cases hb; exact .inl ⟨rfl, by rw [dec_vs]; exact q.fr hx (.bl _)⟩
  · cases ha; cases hb; exact .inl ⟨rfl, by rw [dec_vb]; exact q.fr hx (.bl _)⟩
  · exact .inr ⟨_, _, ha.dp hx (shp_nx h1), hb.dp hx (shp_nx h2), h1, h2, q.fr hx (.bl _)⟩
theorem n_ne {K : PySem.W.Frag} : Snd2 K (rNeO K) gNe := fun B H x y a b o hx ha hb hg Q q => by
  rcases ne_gen hg with ⟨i, j, rfl, rfl, rfl⟩ | ⟨i, j, rfl, rfl, rfl⟩ | ⟨i, j, rfl, rfl, rfl⟩ | ⟨h1, h2, rfl⟩
  · cases ha; cases hb; exact .inl ⟨rfl, by rw [dec_vi]; exact q.fr hx (.bl _)⟩
  · cases ha; cases hb; exact .inl ⟨rfl, by rw [dec_vs]; exact q.fr hx (.bl _)⟩
  · cases ha; cases hb; exact .inl ⟨rfl, by rw [dec_vb]; exact q.fr hx (.bl _)⟩
  · exact .inr ⟨_, _, ha.dp hx (shp_nx h1), hb.dp hx (shp_nx h2), h1, h2, q.fr hx (.bl _)⟩

/-! ### order -/
def rOrd (K : PySem.W.Frag) (f : PyData → PyData → Bool) : R2 := fun x y H Q => ∃ d e, Dp K H x d ∧ Dp K H y e ∧ W.alike d e = true ∧ d ≠ .none ∧ min d.depth e.depth ≤ 64 ∧ Q (.bl (f d e)) H
theorem o_ltD (hu : X.A.units + 64 < cLine) : OpR X (compareOp .Lt) (rOrd X.K W.dataLt) := by
  intro pins s σ H x y v u Q I rx ry h
  obtain ⟨d, e, hd, he, al, dn, dp, q⟩ := h
  obtain ⟨as, r1⟩ := Dp.reads I d x v hd rx
  obtain ⟨bs, r2⟩ := Dp.reads I e y u he ry
  exact W.lt_data r1 r2 al dn (by omega) ⟨.bl _, H, I, rfl, q⟩
theorem o_gtD (hu : X.A.units + 64 < cLine) : OpR X (compareOp .Gt) (rOrd X.K fun d e => W.dataLt e d) := by
  intro pins s σ H x y v u Q I rx ry h
  obtain ⟨d, e, hd, he, al, dn, dp, q⟩ := h
  obtain ⟨as, r1⟩ := Dp.reads I d x v hd rx
  obtain ⟨bs, r2⟩ := Dp.reads I e y u he ry
  exact W.gt_data r1 r2 al dn (by omega) ⟨.bl _, H, I, rfl, q⟩
theorem o_leD (hu : X.A.units + 64 < cLine) : OpR X (compareOp .LtE) (rOrd X.K fun d e => !W.dataLt e d) := by
  intro pins s σ H x y v u Q I rx ry h
  obtain ⟨d, e, hd, he, al, dn, dp, q⟩ := h
  obtain ⟨as, r1⟩ := Dp.reads I d x v hd rx
  obtain ⟨bs, r2⟩ := Dp.reads I e y u he ry
  exact W.le_data r1 r2 al dn (by omega) ⟨.bl _, H, I, rfl, q⟩
theorem o_geD (hu : X.A.units + 64 < cLine) : OpR X (compareOp .GtE) (rOrd X.K fun d e => !W.dataLt d e) := by
  intro pins s σ H x y v u Q I rx ry h
  obtain ⟨d, e, hd, he, al, dn, dp, q⟩ := h
  obtain ⟨as, r1⟩ := Dp.reads I d x v hd rx
  obtain ⟨bs, r2⟩ := Dp.reads I e y u he ry
  exact W.ge_data r1 r2 al dn (by omega) ⟨.bl _, H, I, rfl, q⟩
def rLtO (K : PySem.W.Frag) : R2 := fun x y H Q => (rI0 fun i j => .bl (decide (i < j))) x y H Q ∨ rOrd K W.dataLt x y H Q
def rGtO (K : PySem.W.Frag) : R2 := fun x y H Q => (rI0 fun i j => .bl (decide (j < i))) x y H Q ∨ rOrd K (fun d e => W.dataLt e d) x y H Q
def rLeO (K : PySem.W.Frag) : R2 := fun x y H Q => (rI0 fun i j => .bl (decide (i ≤ j))) x y H Q ∨ rOrd K (fun d e => !W.dataLt e d) x y H Q
def rGeO (K : PySem.W.Frag) : R2 := fun x y H Q => (rI0 fun i j => .bl (decide (j ≤ i))) x y H Q ∨ rOrd K (fun d e => !W.dataLt d e) x y H Q
theorem o_lt (hu : X.A.units + 64 < cLine) : OpR X (compareOp .Lt) (rLtO X.K) := op_lt.or (o_ltD hu)
theorem o_gt (hu : X.A.units + 64 < cLine) : OpR X (compareOp .Gt) (rGtO X.K) := op_gt.or (o_gtD hu)
theorem o_le (hu : X.A.units + 64 < cLine) : OpR X (compareOp .LtE) (rLeO X.K) := op_le.or (o_leD hu)
theorem o_ge (hu : X.A.units + 64 < cLine) : OpR X (compareOp .GtE) (rGeO X.K) := op_ge.or (o_geD hu)
theorem ord_of {a b : D} (h : ordOk a b = true) : W.alike a.py b.py = true ∧ a.py ≠ .none ∧ min a.py.depth b.py.depth ≤ 64 ∧ a.nx = true ∧ b.nx = true := by
  unfold ordOk at h
  rw [Bool.and_eq_true, Bool.and_eq_true, Bool.and_eq_true, Bool.and_eq_true] at h
  obtain ⟨⟨⟨⟨n1, n2⟩, h1⟩, h2⟩, h3⟩ := h
  refine ⟨h1, fun z => ?_, of_decide_eq_true h3, n1, n2⟩
  clear h3 h1 n1 n2
  cases a <;> (try rw [D.py] at z) <;> (first | cases z | skip)
  exact absurd h2 (by decide)
theorem n_lt {K : PySem.W.Frag} : Snd2 K (rLtO K) gLt := fun B H x y a b o hx ha hb hg Q q => by
  unfold gLt at hg
  split at hg
  · rename_i h; cases h; cases hg; cases ha; cases hb
    exact .inl ⟨_, _, rfl, rfl, q.fr hx (.bl _)⟩
  · rename_i h; cases h
    split at hg
    · rename_i hs
      cases hg
      obtain ⟨h1, h2, h3, h4, h5⟩ := ord_of hs
      exact .inr ⟨_, _, ha.dp hx h4, hb.dp hx h5, h1, h2, h3, q.fr hx (.bl _)⟩
    · cases hg
  · cases hg
theorem n_gt {K : PySem.W.Frag} : Snd2 K (rGtO K) gGt := fun B H x y a b o hx ha hb hg Q q => by
  unfold gGt at hg
  split at hg
  · rename_i h; cases h; cases hg; cases ha; cases hb
    exact .inl ⟨_, _, rfl, rfl, q.fr hx (.bl _)⟩
  · rename_i h; cases h
    split at hg
    · rename_i hs
      cases hg
      obtain ⟨h1, h2, h3, h4, h5⟩ := ord_of hs
      exact .inr ⟨_, _, ha.dp hx h4, hb.dp hx h5, h1, h2, h3, q.fr hx (.bl _)⟩
    · cases hg
  · cases hg
theorem n_le {K : PySem.W.Frag} : Snd2 K (rLeO K) gLe := fun B H x y a b o hx ha hb hg Q q => by
  unfold gLe at hg
  split at hg
  · rename_i h; cases h; cases hg; cases ha; cases hb
    exact .inl ⟨_, _, rfl, rfl, q.fr hx (.bl _)⟩
  · rename_i h; cases h
    split at hg
    · rename_i hs
      cases hg
      obtain ⟨h1, h2, h3, h4, h5⟩ := ord_of hs
      exact .inr ⟨_, _, ha.dp hx h4, hb.dp hx h5, h1, h2, h3, q.fr hx (.bl _)⟩
    · cases hg
  · cases hg
theorem n_ge {K : PySem.W.Frag} : Snd2 K (rGeO K) gGe := fun B H x y a b o hx ha hb hg Q q => by
  unfold gGe at hg
  split at hg
  · rename_i h; cases h; cases hg; cases ha; cases hb
    exact .inl ⟨_, _, rfl, rfl, q.fr hx (.bl _)⟩
  · rename_i h; cases h
    split at hg
    · rename_i hs
      cases hg
      obtain ⟨h1, h2, h3, h4, h5⟩ := ord_of hs
      exact .inr ⟨_, _, ha.dp hx h4, hb.dp hx h5, h1, h2, h3, q.fr hx (.bl _)⟩
    · cases hg
  · cases hg

/-! ### is, is not (None, True, False) -/
def rIsO : R2 := fun x y H Q => (fun x y H Q => y = .non ∧ Q (.bl (decide (x = .non))) H) x y H Q ∨ rIsB x y H Q
def rNotO : R2 := fun x y H Q => (fun x y H Q => y = .non ∧ Q (.bl (!decide (x = .non))) H) x y H Q ∨ rNotB x y H Q
theorem o_is : OpR X (compareOp .Is) rIsO := op_isN.or op_isBl
theorem o_isnot : OpR X (compareOp .IsNot) rNotO := op_notN.or op_notBl
theorem rd_non {K : PySem.W.Frag} {B H : Hp} {v : V} {d : D} (h : Rd K B H v d) (hd : d ≠ .opq) : (d = .non ∧ v = .non) ∨ (d ≠ .non ∧ v ≠ .non) := by
  cases d with
  | non => cases h; exact .inl ⟨rfl, rfl⟩
  | lst ds => obtain ⟨a, xs, rfl, _⟩ := h; exact .inr ⟨(by intro z; cases z), (by intro z; cases z)⟩
  | bl b => cases h; exact .inr ⟨(by intro z; cases z), (by intro z; cases z)⟩
  | int b => cases h; exact .inr ⟨(by intro z; cases z), (by intro z; cases z)⟩
  | str b => cases h; exact .inr ⟨(by intro z; cases z), (by intro z; cases z)⟩
  | tup b => cases h; exact .inr ⟨(by intro z; cases z), (by intro z; cases z)⟩
  | scr b => cases h; exact .inr ⟨(by intro z; cases z), (by intro z; cases z)⟩
  | opq => exact absurd rfl hd
  | dct ks ds => obtain ⟨a, kv, rfl, _⟩ := h; exact .inr ⟨(by intro z; cases z), (by intro z; cases z)⟩
  | ins c ns ds => obtain ⟨a, C, dx, fs, rfl, _⟩ := h; exact .inr ⟨(by intro z; cases z), (by intro z; cases z)⟩
theorem n_is {K : PySem.W.Frag} : Snd2 K rIsO gIsN := fun B H x y a b o hx ha hb hg Q q => by
  unfold gIsN at hg
  split at hg
  · rename_i h; cases h; cases hg; cases ha; cases hb
    exact .inl ⟨rfl, q.fr hx (.bl _)⟩
  · cases hg
  · rename_i h1 h2 h; cases h; cases hg; cases hb
    rcases rd_non ha (fun z => by subst z; exact h2 rfl) with ⟨e, _⟩ | ⟨_, e⟩
    · exact absurd e (fun z => by subst z; exact h1 rfl)
    · exact .inl ⟨rfl, by rw [decide_eq_false e]; exact q.fr hx (.bl _)⟩
  · rename_i h; cases h; cases hg; cases ha; cases hb
    exact .inr ⟨_, _, rfl, rfl, q.fr hx (.bl _)⟩
  · cases hg
theorem n_isnot {K : PySem.W.Frag} : Snd2 K rNotO gNotN := fun B H x y a b o hx ha hb hg Q q => by
  unfold gNotN at hg
  split at hg
  · rename_i h; cases h; cases hg; cases ha; cases hb
    exact .inl ⟨rfl, q.fr hx (.bl _)⟩
  · cases hg
  · rename_i h1 h2 h; cases h; cases hg; cases hb
    rcases rd_non ha (fun z => by subst z; exact h2 rfl) with ⟨e, _⟩ | ⟨_, e⟩
    · exact absurd e (fun z => by subst z; exact h1 rfl)
    · exact .inl ⟨rfl, by rw [decide_eq_false e]; exact q.fr hx (.bl _)⟩
  · rename_i h; cases h; cases hg; cases ha; cases hb
    exact .inr ⟨_, _, rfl, rfl, q.fr hx (.bl _)⟩
  · cases hg

/-! ### in, not in -/
def rInT (K : PySem.W.Frag) (neg : Bool) : R2 := fun x y H Q => ∃ d ds, Dp K H x d ∧ Dp K H y (.tuple ds) ∧ SeqAt.shaped d = true ∧ SeqAt.shaped (.tuple ds) = true ∧ Q (.bl (if neg then !(ds.any fun z => PyData.eqv z d) else ds.any fun z => PyData.eqv z d)) H
theorem o_inT (hu : X.A.units + 65 < cLine) : OpR X (compareOp .In) (rInT X.K false) := by
  intro pins s σ H x y v u Q I rx ry h
  obtain ⟨d, ds, hd, he, sd, se, q⟩ := h
  obtain ⟨as, r1⟩ := Dp.reads I d x v hd rx
  obtain ⟨bs, r2⟩ := Dp.reads I (.tuple ds) y u he ry
  exact SeqAt.in_tuple_reads r2 r1 (SeqAt.canLay_of_shaped se) (SeqAt.canLay_of_shaped sd) (PyProof.Rows.room_in_shaped sd hu) ⟨.bl _, H, I, rfl, q⟩
theorem o_notInT (hu : X.A.units + 65 < cLine) : OpR X (compareOp .NotIn) (rInT X.K true) := by
  intro pins s σ H x y v u Q I rx ry h
  obtain ⟨d, ds, hd, he, sd, se, q⟩ := h
  obtain ⟨as, r1⟩ := Dp.reads I d x v hd rx
  obtain ⟨bs, r2⟩ := Dp.reads I (.tuple ds) y u he ry
  exact SeqAt.notIn_tuple_reads r2 r1 (SeqAt.canLay_of_shaped se) (SeqAt.canLay_of_shaped sd) (PyProof.Rows.room_in_shaped sd hu) ⟨.bl _, H, I, rfl, q⟩
theorem keyD_v {K : PySem.W.Frag} {B H : Hp} {v : V} {d : D} {k : L2.Key} (h : keyD d = some k) (r : Rd K B H v d) : v = kV k := by
  cases d with
  | int i => cases h; cases r; rfl
  | str s => cases h; cases r; rfl
  | _ => cases h
theorem getK_val {K : PySem.W.Frag} {B : Hp} {k : L2.Key} : ∀ {kv : List (L2.Key × V)} {ks : List L2.Key} {ds : List D}, kv.map (·.1) = ks → RepL K B (kv.map (·.2)) ds → (getK ks ds k).isSome = (valV kv k).isSome
  | [], [], _, _, _ => by cases ‹List D› <;> rfl
  | p :: kv, [], _, h, _ => by cases h
  | [], _ :: _, _, h, _ => by cases h
  | p :: kv, j :: ks, d :: ds, h, hr => by
    rw [List.map_cons] at h hr
    injection h with h1 h2
    cases hr with
    | cons _ hr =>
      unfold getK
      by_cases e : j = k
      · rw [if_pos e, valV_pos (h1.trans e)]; rfl
      · rw [if_neg e, valV_neg (fun z => e (h1.symm.trans z))]
        exact getK_val h2 hr
  | p :: kv, j :: ks, [], _, hr => by cases hr
theorem getK_rep {K : PySem.W.Frag} {B : Hp} {k : L2.Key} {d : D} : ∀ {kv : List (L2.Key × V)} {ks : List L2.Key} {ds : List D}, kv.map (·.1) = ks → RepL K B (kv.map (·.2)) ds → getK ks ds k = some d → ∃ v, valV kv k = some v ∧ Rep K B v d
  | [], [], ds, _, _, e => by cases ds <;> cases e
  | p :: kv, [], _, h, _, _ => by cases h
  | [], _ :: _, _, h, _, _ => by cases h
  | p :: kv, j :: ks, d' :: ds, h, hr, e => by
    rw [List.map_cons] at h hr
    injection h with h1 h2
    cases hr with
    | cons hd hr =>
      unfold getK at e
      by_cases ej : j = k
      · rw [if_pos ej] at e
        cases e
        exact ⟨_, valV_pos (h1.trans ej), hd⟩
      · rw [if_neg ej] at e
        obtain ⟨v, e1, e2⟩ := getK_rep h2 hr e
        exact ⟨v, by rw [valV_neg (fun z => ej (h1.symm.trans z))]; exact e1, e2⟩
  | p :: kv, j :: ks, [], _, hr, _ => by cases hr
def rDIn (neg : Bool) : R2 := fun x y H Q => ∃ p kv k, y = .ref p ∧ x = kV k ∧ H p = some (.dK kv) ∧ Q (.bl (if neg then !(valV kv k).isSome else (valV kv k).isSome)) H
theorem o_dIn (hu : X.A.units + 1 < cLine) : OpR X (compareOp .In) (rDIn false) := by
  intro pins s σ H x y v u Q I rx ry h
  obtain ⟨p, kv, k, rfl, rfl, hp, q⟩ := h
  cases ry
  exact d_in hu I (DGet.k hp) rx fun s' I' => ⟨.bl _, H, I', rfl, q⟩
theorem o_dNotIn (hu : X.A.units + 1 < cLine) : OpR X (compareOp .NotIn) (rDIn true) := by
  intro pins s σ H x y v u Q I rx ry h
  obtain ⟨p, kv, k, rfl, rfl, hp, q⟩ := h
  cases ry
  exact d_notIn hu I (DGet.k hp) rx fun s' I' => ⟨.bl _, H, I', rfl, q⟩
def rInO (K : PySem.W.Frag) : R2 := fun x y H Q => (fun x y H Q => ∃ (c : Nat) (z : Str), x = .str ⟨#[c]⟩ ∧ y = .str z ∧ Q (.bl (decide (c ∈ z.cps.toList))) H) x y H Q ∨ (fun x y H Q => ∃ i j, x = .str i ∧ y = .str j ∧ Q (.bl (!(Builtin.Str.occurrences j i 0 j.length 1).isEmpty)) H) x y H Q ∨ rInD K x y H Q ∨ rInT K false x y H Q ∨ rDIn false x y H Q
def rNotInO (K : PySem.W.Frag) : R2 := fun x y H Q => (fun x y H Q => ∃ (c : Nat) (z : Str), x = .str ⟨#[c]⟩ ∧ y = .str z ∧ Q (.bl (!decide (c ∈ z.cps.toList))) H) x y H Q ∨ (fun x y H Q => ∃ i j, x = .str i ∧ y = .str j ∧ Q (.bl (!(!(Builtin.Str.occurrences j i 0 j.length 1).isEmpty))) H) x y H Q ∨ rNotInD K x y H Q ∨ rInT K true x y H Q ∨ rDIn true x y H Q
theorem o_in (hu : X.A.units + 65 < cLine) : OpR X (compareOp .In) (rInO X.K) := op_in_sign.or (op_in_str.or ((op_inD hu).or ((o_inT hu).or (o_dIn (by omega)))))
theorem o_notin (hu : X.A.units + 65 < cLine) : OpR X (compareOp .NotIn) (rNotInO X.K) := op_notIn_sign.or (op_notin_str.or ((op_notInD hu).or ((o_notInT hu).or (o_dNotIn (by omega)))))
theorem any_pys (x : D) (ds : List D) : ((D.pys ds).any fun z => PyData.eqv z x.py) = inL x ds := by
  rw [D.pys_map, List.any_map]
  rfl
theorem str_one {s : Str} {c : Nat} (h : s.cps.toList = [c]) : s = ⟨#[c]⟩ := by
  cases s with
  | mk cps =>
    have : cps = #[c] := by
      apply Array.ext'
      simpa using h
    rw [this]
theorem n_in {K : PySem.W.Frag} : Snd2 K (rInO K) gIn := fun B H x y a b o hx ha hb hg Q q => by
  unfold gIn at hg
  split at hg
  · rename_i s z h; cases h; cases hg; cases ha; cases hb
    unfold inStr at q
    split at q
    · rename_i c hc
      rw [str_one hc]
      exact .inl ⟨_, _, rfl, rfl, q.fr hx (.bl _)⟩
    · exact .inr (.inl ⟨_, _, rfl, rfl, q.fr hx (.bl _)⟩)
  · rename_i h; cases h
    split at hg
    · rename_i hs
      cases hg
      rw [Bool.and_eq_true] at hs
      refine .inr (.inr (.inl ⟨_, _, ha.dp hx (shp_nx hs.1), by have := hb.dp hx (shp_nx hs.2); rw [D.py] at this; exact this, hs.1, by have := hs.2; unfold shp at this; rw [D.py] at this; exact this, ?_⟩))
      rw [any_pys]
      exact q.fr hx (.bl _)
    · cases hg
  · rename_i h; cases h
    split at hg
    · rename_i hs
      cases hg
      rw [Bool.and_eq_true] at hs
      refine .inr (.inr (.inr (.inl ⟨_, _, ha.dp hx (shp_nx hs.1), by have := hb.dp hx (shp_nx hs.2); rw [D.py] at this; exact this, hs.1, by have := hs.2; unfold shp at this; rw [D.py] at this; exact this, ?_⟩)))
      rw [any_pys]
      exact q.fr hx (.bl _)
    · cases hg
  · rename_i h; cases h
    obtain ⟨k, hk, rfl⟩ := Option.map_eq_some_iff.mp hg
    obtain ⟨p, kv, rfl, h1, h2, h3⟩ := hb
    exact .inr (.inr (.inr (.inr ⟨p, kv, k, rfl, keyD_v hk ha, h1, by rw [← getK_val h2 h3]; exact q.fr hx (.bl _)⟩)))
  · cases hg
theorem n_notin {K : PySem.W.Frag} : Snd2 K (rNotInO K) gNotIn := fun B H x y a b o hx ha hb hg Q q => by
  unfold gNotIn at hg
  split at hg
  · rename_i s z h; cases h; cases hg; cases ha; cases hb
    unfold inStr at q
    split at q
    · rename_i c hc
      rw [str_one hc]
      exact .inl ⟨_, _, rfl, rfl, q.fr hx (.bl _)⟩
    · exact .inr (.inl ⟨_, _, rfl, rfl, q.fr hx (.bl _)⟩)
  · rename_i h; cases h
    split at hg
    · rename_i hs
      cases hg
      rw [Bool.and_eq_true] at hs
      refine .inr (.inr (.inl ⟨_, _, ha.dp hx (shp_nx hs.1), by have := hb.dp hx (shp_nx hs.2); rw [D.py] at this; exact this, hs.1, by have := hs.2; unfold shp at this; rw [D.py] at this; exact this, ?_⟩))
      rw [any_pys]
      exact q.fr hx (.bl _)
    · cases hg
  · rename_i h; cases h
    split at hg
    · rename_i hs
      cases hg
      rw [Bool.and_eq_true] at hs
      refine .inr (.inr (.inr (.inl ⟨_, _, ha.dp hx (shp_nx hs.1), by have := hb.dp hx (shp_nx hs.2); rw [D.py] at this; exact this, hs.1, by have := hs.2; unfold shp at this; rw [D.py] at this; exact this, ?_⟩)))
      rw [any_pys]
      exact q.fr hx (.bl _)
    · cases hg
  · rename_i h; cases h
    obtain ⟨k, hk, rfl⟩ := Option.map_eq_some_iff.mp hg
    obtain ⟨p, kv, rfl, h1, h2, h3⟩ := hb
    exact .inr (.inr (.inr (.inr ⟨p, kv, k, rfl, keyD_v hk ha, h1, by rw [← getK_val h2 h3]; exact q.fr hx (.bl _)⟩)))
  · cases hg

/-! ### subscripts -/
theorem at_rep {K : PySem.W.Frag} {B : Hp} {xs : List V} {ds : List D} {i : Int} {d : D} (h : RepL K B xs ds) (e : atI ds i = some d) : ∃ v, atI xs i = some v ∧ Rep K B v d := by
  unfold atI at e ⊢
  rw [h.length]
  cases q : ixN ds.length i with
  | none => rw [q] at e; cases e
  | some j =>
    rw [q] at e
    exact h.get e
theorem at_int {ns : List Int} {i : Int} {d : Int} (e : atI ns i = some d) : atI (ns.map V.int) i = some (.int d) := by
  unfold atI at e ⊢
  rw [List.length_map]
  cases q : ixN ns.length i with
  | none => rw [q] at e; cases e
  | some j =>
    rw [q] at e
    have e' : ns[j]? = some d := e
    show (ns.map V.int)[j]? = some (V.int d)
    rw [List.getElem?_map, e']
    rfl
/-- d[k], there -/
def rIxDk : R2 := fun x y H Q => ∃ p kv k v, x = .ref p ∧ y = kV k ∧ H p = some (.dK kv) ∧ valV kv k = some v ∧ Q v H
theorem ix_dk (hu : X.A.units + 1 < cLine) : IxR X rIxDk := by
  intro value slice pins s σ H x y v u Q I rx ry h hs
  obtain ⟨p, kv, k, z, rfl, rfl, hp, hv, q⟩ := h
  cases rx
  have g : DGet H p (kV k) (some z) := .inl ⟨kv, k, .inl hp, rfl, hv.symm⟩
  exact PyProof.Rows.tail_any (dict_typeIs I g) PySem.F.slot_dict_getitem.lookup (d_getItem hu I g ry fun w' s' I' rw' => ⟨z, H, I', rw', q⟩) hs
def rIxA (K : PySem.W.Frag) : R2 := fun x y H Q => rIx K x y H Q ∨ rIxDk x y H Q
theorem ix_any (hu : X.A.units + 64 < cLine) : IxR X (rIxA X.K) := ix_seq.or (ix_dk (by omega))
theorem n_ix {K : PySem.W.Frag} : Snd2 K (rIxA K) gIx := fun B H x y a b o hx ha hb hg Q q => by
  unfold gIx at hg
  split at hg
  · rename_i h; cases h; cases hb
    obtain ⟨d, e, rfl⟩ := Option.map_eq_some_iff.mp hg
    obtain ⟨p, xs, rfl, h1, h2⟩ := ha
    obtain ⟨v, e1, e2⟩ := at_rep h2 e
    exact .inl (.inl ⟨_, _, _, v, rfl, rfl, Evl.sq_of h1, e1, q.fr hx e2⟩)
  · rename_i h; cases h; cases hb
    obtain ⟨d, e, rfl⟩ := Option.map_eq_some_iff.mp hg
    cases ha with
    | tup h1 h2 =>
      obtain ⟨v, e1, e2⟩ := at_rep h2 e
      exact .inl (.inr (.inl ⟨_, _, _, v, rfl, rfl, Evl.ex_t hx h1, e1, q.fr hx e2⟩))
  · rename_i h; cases h; cases hb
    obtain ⟨d, e, rfl⟩ := Option.map_eq_some_iff.mp hg
    cases ha with
    | scr h1 => exact .inl (.inl ⟨_, _, _, _, rfl, rfl, Evl.ex_l hx h1, at_int e, q.fr hx (.int _)⟩)
  · rename_i h; cases h; cases hb
    split at hg
    · rename_i hl
      obtain ⟨d, e, rfl⟩ := Option.map_eq_some_iff.mp hg
      cases ha
      exact .inl (.inr (.inr ⟨_, _, _, rfl, rfl, hl, e, q.fr hx (.str _)⟩))
    · cases hg
  · rename_i h; cases h
    obtain ⟨k, hk, e0⟩ := Option.bind_eq_some_iff.mp hg
    obtain ⟨d, e, rfl⟩ := Option.map_eq_some_iff.mp e0
    obtain ⟨p, kv, rfl, h1, h2, h3⟩ := ha
    obtain ⟨v, e1, e2⟩ := getK_rep h2 h3 e
    exact .inr ⟨p, kv, k, v, rfl, keyD_v hk hb, h1, e1, q.fr hx e2⟩
  · cases hg

/-! ### built-ins -/
theorem RdL.one {K : PySem.W.Frag} {B H : Hp} {vs : List V} {d : D} (h : RdL K B H vs [d]) : ∃ v, vs = [v] ∧ Rd K B H v d := by
  cases h with
  | cons h hs => cases hs; exact ⟨_, rfl, h⟩
theorem n_len {K : PySem.W.Frag} : SndN K (fun xs H Q => ∃ x n, xs = [x] ∧ LenV K x H n ∧ Q (.int n) H) gLen := fun B H vs ds o hx hr hg Q q => by
  unfold gLen at hg
  split at hg
  · cases hg
    obtain ⟨v, rfl, h⟩ := hr.one
    obtain ⟨p, xs, rfl, h1, h2⟩ := h
    exact ⟨_, _, rfl, .inl ⟨_, Evl.sq_of h1, h2.length.symm⟩, q.fr hx (.int _)⟩
  · cases hg
    obtain ⟨v, rfl, h⟩ := hr.one
    cases h with
    | tup h1 h2 => exact ⟨_, _, rfl, .inr ⟨_, Evl.ex_t hx h1, h2.length.symm⟩, q.fr hx (.int _)⟩
  · cases hg
    obtain ⟨v, rfl, h⟩ := hr.one
    cases h with
    | scr h1 => exact ⟨_, _, rfl, .inl ⟨_, Evl.ex_l hx h1, (List.length_map ..).symm⟩, q.fr hx (.int _)⟩
  · split at hg
    · rename_i hl
      cases hg
      obtain ⟨v, rfl, h⟩ := hr.one
      cases h
      exact ⟨_, _, rfl, ⟨hl, rfl⟩, q.fr hx (.int _)⟩
    · cases hg
  · cases hg
theorem call_int12 {X : Cx} : CallR X (.type "int") (fun xs H Q => ((∃ i, xs = [.int i] ∧ Q (.int i) H) ∨ ∃ k, xs = [.bl k] ∧ Q (.int (if k then 1 else 0)) H) ∨ ∃ a n, xs = [.str a] ∧ PySem.intText? a = some n ∧ a.length ≤ 640 ∧ Q (.int n) H) := call_int1.or call_int_str
theorem n_int {K : PySem.W.Frag} : SndN K (fun xs H Q => ((∃ i, xs = [.int i] ∧ Q (.int i) H) ∨ ∃ k, xs = [.bl k] ∧ Q (.int (if k then 1 else 0)) H) ∨ ∃ a n, xs = [.str a] ∧ PySem.intText? a = some n ∧ a.length ≤ 640 ∧ Q (.int n) H) gInt := fun B H vs ds o hx hr hg Q q => by
  unfold gInt at hg
  split at hg
  · cases hg
    obtain ⟨v, rfl, h⟩ := hr.one
    cases h
    exact .inl (.inl ⟨_, rfl, q.fr hx (.int _)⟩)
  · cases hg
    obtain ⟨v, rfl, h⟩ := hr.one
    cases h
    exact .inl (.inr ⟨_, rfl, q.fr hx (.int _)⟩)
  · split at hg
    · rename_i hl
      obtain ⟨n, hn, rfl⟩ := Option.map_eq_some_iff.mp hg
      obtain ⟨v, rfl, h⟩ := hr.one
      cases h
      exact .inr ⟨_, n, rfl, hn, hl, q.fr hx (.int _)⟩
    · cases hg
  · cases hg
theorem n_abs {K : PySem.W.Frag} : SndN K (fun xs H Q => ∃ i, xs = [.int i] ∧ Q (.int (if i < 0 then -i else i)) H) gAbs := fun B H vs ds o hx hr hg Q q => by
  unfold gAbs at hg
  split at hg
  · cases hg
    obtain ⟨v, rfl, h⟩ := hr.one
    cases h
    exact ⟨_, rfl, q.fr hx (.int _)⟩
  · cases hg
theorem n_ord {K : PySem.W.Frag} : SndN K (fun xs H Q => ∃ x, xs = [.str x] ∧ x.length = 1 ∧ Q (.int (x.cps.getD 0 0 : Nat)) H) gOrd := fun B H vs ds o hx hr hg Q q => by
  unfold gOrd at hg
  split at hg
  · split at hg
    · rename_i hl
      cases hg
      obtain ⟨v, rfl, h⟩ := hr.one
      cases h
      exact ⟨_, rfl, hl, q.fr hx (.int _)⟩
    · cases hg
  · cases hg
theorem n_list {K : PySem.W.Frag} : SndN K (fun xs H Q => ∃ p ys, xs = [.ref p] ∧ (SqL K H p ys ∨ SqT K H p ys) ∧ ∀ l, H l = none → Q (.ref l) (upd H l (.lst ys))) gList := fun B H vs ds o hx hr hg Q q => by
  unfold gList at hg
  split at hg
  · cases hg
    obtain ⟨v, rfl, h⟩ := hr.one
    obtain ⟨p, xs, rfl, h1, h2⟩ := h
    exact ⟨_, _, rfl, .inl (Evl.sq_of h1), fun l hl => q.newL hx h2 hl⟩
  · cases hg
    obtain ⟨v, rfl, h⟩ := hr.one
    cases h with
    | tup h1 h2 => exact ⟨_, _, rfl, .inr (Evl.ex_t hx h1), fun l hl => q.newL hx h2 hl⟩
  · cases hg
    obtain ⟨v, rfl, h⟩ := hr.one
    cases h with
    | scr h1 => exact ⟨_, _, rfl, .inl (Evl.ex_l hx h1), fun l hl => q.newL hx (repL_ints _) hl⟩
  · cases hg
theorem n_tuple {K : PySem.W.Frag} : SndN K (fun xs H Q => ∃ p ys, xs = [.ref p] ∧ ((SqL K H p ys ∧ ∀ l, H l = none → Q (.ref l) (upd H l (.tup ys))) ∨ (SqT K H p ys ∧ Q (.ref p) H))) gTuple := fun B H vs ds o hx hr hg Q q => by
  unfold gTuple at hg
  split at hg
  · cases hg
    obtain ⟨v, rfl, h⟩ := hr.one
    obtain ⟨p, xs, rfl, h1, h2⟩ := h
    exact ⟨_, _, rfl, .inl ⟨Evl.sq_of h1, fun l hl => q.newT hx h2 hl⟩⟩
  · cases hg
    obtain ⟨v, rfl, h⟩ := hr.one
    cases h with
    | tup h1 h2 => exact ⟨_, _, rfl, .inr ⟨Evl.ex_t hx h1, q.fr hx (.tup h1 h2)⟩⟩
  · cases hg
theorem boolsD_map : ∀ {ds : List D} {bs : List Bool}, boolsD ds = some bs → ds = bs.map D.bl
  | [], bs, h => by cases h; rfl
  | d :: ds, bs, h => by
    cases d with
    | bl b =>
      obtain ⟨cs, e, rfl⟩ := Option.map_eq_some_iff.mp (show (boolsD ds).map (b :: ·) = some bs from h)
      rw [boolsD_map e]; rfl
    | _ => cases h
theorem intsD_map : ∀ {ds : List D} {bs : List Int}, intsD ds = some bs → ds = bs.map D.int
  | [], bs, h => by cases h; rfl
  | d :: ds, bs, h => by
    cases d with
    | int b =>
      obtain ⟨cs, e, rfl⟩ := Option.map_eq_some_iff.mp (show (intsD ds).map (b :: ·) = some bs from h)
      rw [intsD_map e]; rfl
    | _ => cases h
theorem strsD_map : ∀ {ds : List D} {bs : List Str}, strsD ds = some bs → ds = bs.map D.str
  | [], bs, h => by cases h; rfl
  | d :: ds, bs, h => by
    cases d with
    | str b =>
      obtain ⟨cs, e, rfl⟩ := Option.map_eq_some_iff.mp (show (strsD ds).map (b :: ·) = some bs from h)
      rw [strsD_map e]; rfl
    | _ => cases h
theorem boolsD_bl : ∀ bs : List Bool, boolsD (bs.map D.bl) = some bs
  | [] => rfl
  | b :: bs => by show (boolsD (bs.map D.bl)).map (b :: ·) = _; rw [boolsD_bl bs]; rfl
theorem intsD_int : ∀ bs : List Int, intsD (bs.map D.int) = some bs
  | [] => rfl
  | b :: bs => by show (intsD (bs.map D.int)).map (b :: ·) = _; rw [intsD_int bs]; rfl
theorem strsD_str : ∀ bs : List Str, strsD (bs.map D.str) = some bs
  | [] => rfl
  | b :: bs => by show (strsD (bs.map D.str)).map (b :: ·) = _; rw [strsD_str bs]; rfl
theorem n_all {K : PySem.W.Frag} : SndN K (rAll K) gAll := fun B H vs ds o hx hr hg Q q => by
  unfold gAll at hg
  split at hg
  · obtain ⟨bs, e, rfl⟩ := Option.map_eq_some_iff.mp hg
    obtain ⟨v, rfl, h⟩ := hr.one
    obtain ⟨p, xs, rfl, h1, h2⟩ := h
    rw [boolsD_map e] at h2
    rw [repL_of_bools h2] at h1
    exact ⟨_, _, rfl, Evl.sq_of h1, q.fr hx (.bl _)⟩
  · cases hg
theorem n_any {K : PySem.W.Frag} : SndN K (rAny K) gAny := fun B H vs ds o hx hr hg Q q => by
  unfold gAny at hg
  split at hg
  · obtain ⟨bs, e, rfl⟩ := Option.map_eq_some_iff.mp hg
    obtain ⟨v, rfl, h⟩ := hr.one
    obtain ⟨p, xs, rfl, h1, h2⟩ := h
    rw [boolsD_map e] at h2
    rw [repL_of_bools h2] at h1
    exact ⟨_, _, rfl, Evl.sq_of h1, q.fr hx (.bl _)⟩
  · cases hg
theorem n_sum {K : PySem.W.Frag} : SndN K (rSum K) gSum := fun B H vs ds o hx hr hg Q q => by
  unfold gSum at hg
  split at hg
  · obtain ⟨bs, e, rfl⟩ := Option.map_eq_some_iff.mp hg
    obtain ⟨v, rfl, h⟩ := hr.one
    obtain ⟨p, xs, rfl, h1, h2⟩ := h
    rw [intsD_map e] at h2
    rw [repL_of_ints h2] at h1
    exact ⟨_, _, rfl, Evl.sq_of h1, q.fr hx (.int _)⟩
  · cases hg
end
end Dn


namespace Dn
open PySem PySem.Spec PyProof.Rows L2
/-- a list, a tuple, a text walked -/
def iAny (K : PySem.W.Frag) (te : TE) : TI := fun σ H R => te σ H fun x H1 => (∃ a, x = .ref a ∧ (∃ xs, SqL K H1 a xs) ∧ R (Itl K a) H1) ∨ (∃ a, x = .ref a ∧ (∃ xs, SqT K H1 a xs) ∧ R (Itt K a) H1) ∨ (∃ z, x = .str z ∧ R (Its z) H1)
theorem pi_any {X : Cx} {tg e : Expr} {te : TE} (he : PE X e te) : PI X tg e (iAny X.K te) := by
  refine ⟨fun pins s σ H R I h => ?_⟩
  refine thn (he.run pins s σ H _ I h) fun v s1 ⟨x, H1, I1, r1, q1⟩ => ?_
  rcases q1 with ⟨a, e, ⟨xs, hq⟩, q⟩ | ⟨a, e, ⟨xs, hq⟩, q⟩ | ⟨x', ex, q⟩
  · subst e
    cases r1
    obtain ⟨its, rv, p, hz⟩ := I1.list hq
    refine wpAny_pyIter_list p.isList ?_
    refine ⟨s1.heap.objs.size, [s1.heap.objs.size], _, _, H1, rfl, I1.kept (t' := s1.toks) fun b o e => Heap.get?_push_of_some _ e, turn_list a _, ⟨_, Heap.get?_push_size _ rfl, rfl, rfl⟩, fun b hb => ?_, q⟩
    have e : b = s1.heap.objs.size := by simpa using hb
    subst e
    exact I1.fpOk (Nat.le_refl _) (I1.hok.fresh (Nat.le_refl _))
  · subst e
    cases r1
    obtain ⟨its, rv, p, hz⟩ := I1.tuple hq
    refine wpAny_pyIter_tuple (show s1.heap.IsTuple a its.toArray from p) ?_
    refine ⟨s1.heap.objs.size, [s1.heap.objs.size], _, _, H1, rfl, I1.kept (t' := s1.toks) fun b o e => Heap.get?_push_of_some _ e, turn_tuple a _, ⟨_, Heap.get?_push_size _ rfl, rfl, rfl⟩, fun b hb => ?_, q⟩
    have e : b = s1.heap.objs.size := by simpa using hb
    subst e
    exact I1.fpOk (Nat.le_refl _) (I1.hok.fresh (Nat.le_refl _))
  · subst ex
    obtain ⟨t, rfl⟩ := r1
    cases ha : x'.cps.all (· < 128)
    · exact wpAny_pyIter_wide ha (pi_one (tk := s1.toks) I1 _ (turn_str _ x' t "str_iterator" (.inr rfl)) ⟨_, Heap.get?_push_size _ rfl, rfl, rfl⟩ q)
    · exact wpAny_pyIter_ascii ha (pi_one (tk := s1.toks) I1 _ (turn_str _ x' t "str_ascii_iterator" (.inl rfl)) ⟨_, Heap.get?_push_size _ rfl, rfl, rfl⟩ q)
end Dn

namespace Dn
open PySem L2
open Evl (Ex)
/-! ## 14. Sources -/
def signs (z : Str) : List D := z.cps.toList.map fun c => .str ⟨#[c]⟩
def seqD : D → Option (List D)
  | .lst ds => some ds
  | .tup ds => some ds
  | .scr ns => some (ns.map .int)
  | .str z => some (signs z)
  | _ => none
def sSeqD (f : M O) : M (List D) := f.bind fun o e => (seqD o.d).map fun ds => .ok ds e
def rngD (lo hi : Int) : List D := (List.range (hi - lo).toNat).map fun i => .int (lo + (i : Nat))
def inR (i : Int) : Bool := decide (-(2 ^ 62) ≤ i ∧ i < 2 ^ 62)
def sRng1 (p : P) : M (List D) := (ops [p]).bind fun ds e => match ds with
  | [.int j] => if inR j then some (.ok (rngD 0 j) e) else none
  | _ => none
def sRng2 (p q : P) : M (List D) := (ops [p, q]).bind fun ds e => match ds with
  | [.int i, .int j] => if inR i && inR j then some (.ok (rngD i j) e) else none
  | _ => none
/-- range(a, b, -1) -/
def sRngD (p q : P) : M (List D) := (ops [p, q, .v (eC (.int (-1)))]).bind fun ds e => match ds with
  | [.int i, .int j, .int _] => if inR i && inR j then some (.ok ((List.range (i - j).toNat).map fun k => .int (i + (k : Nat) * (-1))) e) else none
  | _ => none
def enumD (n : Nat) : List D → List D
  | [] => []
  | d :: ds => .tup [.int (n : Nat), d] :: enumD (n + 1) ds
def sEnum (p : P) : M (List D) := (ops [p]).bind fun ds e => match ds with
  | [.lst xs] => some (.ok (enumD 0 xs) e)
  | _ => none
def zipD : List D → List D → List D
  | x :: xs, y :: ys => .tup [x, y] :: zipD xs ys
  | _, _ => []
def sZip (p q : P) : M (List D) := (ops [p, q]).bind fun ds e => match ds with
  | [.lst xs, .lst ys] => some (.ok (zipD xs ys) e)
  | [.tup xs, .tup ys] => some (.ok (zipD xs ys) e)
  | _ => none
section
variable {K : PySem.W.Frag} {B H : Hp}
theorem walk_at {J : It} {xs : List V} {ds : List D} {G : Hp → Prop} (w : Walk J xs.length G (YAt xs)) (hG : ∀ H, Ex B H → G H) (r : RepL K B xs ds) : WalkD K J B ds := by
  refine ⟨G, YAt xs, by rw [← r.length]; exact w, hG, fun i H x H' B1 hi h1 h2 y => ?_⟩
  obtain ⟨rfl, hx⟩ := y
  obtain ⟨d, hd, rd⟩ := r.get' hx
  exact ⟨B1, d, Gr.refl h2, hd, rd.mono h1⟩
theorem walkD_lst {a : Addr} {xs : List V} {ds : List D} (h : SqL K B a xs) (r : RepL K B xs ds) : WalkD K (Itl K a) B ds := walk_at walk_list (fun H e => Evl.ex_l e h) r
theorem walkD_tup {a : Addr} {xs : List V} {ds : List D} (h : SqT K B a xs) (r : RepL K B xs ds) : WalkD K (Itt K a) B ds := walk_at walk_tup (fun H e => Evl.ex_t e h) r
theorem walkD_str {z : Str} : WalkD K (Its z) B (signs z) := by
  refine ⟨_, _, by unfold signs; rw [List.length_map, Array.length_toList]; exact walk_str, fun _ _ => trivial, fun i H x H' B1 hi h1 h2 y => ?_⟩
  obtain ⟨rfl, c, hc, rfl⟩ := y
  refine ⟨B1, .str ⟨#[c]⟩, Gr.refl h2, ?_, .str _⟩
  unfold signs
  rw [List.getElem?_map, Array.getElem?_toList, hc]
  rfl
theorem walkD_rng {lo hi : Int} : WalkD K (Itr lo (hi - lo).toNat) B (rngD lo hi) := by
  refine ⟨_, _, by unfold rngD; rw [List.length_map, List.length_range]; exact walk_range, fun _ _ => trivial, fun i H x H' B1 hi' h1 h2 y => ?_⟩
  obtain ⟨rfl, rfl⟩ := y
  refine ⟨B1, .int (lo + (i : Nat)), Gr.refl h2, ?_, .int _⟩
  unfold rngD at hi' ⊢
  rw [List.length_map, List.length_range] at hi'
  rw [List.getElem?_map, List.getElem?_range hi']
  rfl
theorem walkD_rngD {lo : Int} {n : Nat} : WalkD K (Itc lo (-1) n) B ((List.range n).map fun k => .int (lo + (k : Nat) * (-1))) := by
  refine ⟨_, _, by rw [List.length_map, List.length_range]; exact walk_rangeC, fun _ _ => trivial, fun i H x H' B1 hi' h1 h2 y => ?_⟩
  obtain ⟨rfl, rfl⟩ := y
  refine ⟨B1, .int (lo + (i : Nat) * (-1)), Gr.refl h2, ?_, .int _⟩
  rw [List.length_map, List.length_range] at hi'
  rw [List.getElem?_map, List.getElem?_range hi']
  rfl
theorem enumD_len : ∀ (ds : List D) (n : Nat), (enumD n ds).length = ds.length
  | [], _ => rfl
  | d :: ds, n => by show (enumD (n + 1) ds).length + 1 = ds.length + 1; rw [enumD_len ds]
theorem enumD_get : ∀ (ds : List D) (n i : Nat) (d : D), ds[i]? = some d → (enumD n ds)[i]? = some (.tup [.int ((n + i : Nat) : Int), d])
  | [], _, _, _, h => by simp at h
  | x :: ds, n, 0, d, h => by
    have h' : some x = some d := h
    cases h'
    rfl
  | x :: ds, n, i + 1, d, h => by
    have := enumD_get ds (n + 1) i d h
    rw [show n + 1 + i = n + (i + 1) by omega] at this
    exact this
theorem walkD_enum {a : Addr} {xs : List V} {ds : List D} (h : SqL K B a xs) (r : RepL K B xs ds) : WalkD K (Ite K a) B (enumD 0 ds) := by
  refine ⟨_, _, by rw [enumD_len, ← r.length]; exact walk_enum (xs := xs), fun H e => Evl.ex_l e h, fun i H x H' B1 hi h1 h2 y => ?_⟩
  obtain ⟨T, u, v, rfl, hT, rfl, hu, hv⟩ := y
  cases hu
  obtain ⟨d, hd, rd⟩ := r.get' hv
  have g := Gr.new h2 hT (.tup [.int (i : Nat), v])
  refine ⟨_, .tup [.int ((0 + i : Nat) : Int), d], g, enumD_get ds 0 i d hd, .tup (Evl.st_of upd_same) ?_⟩
  rw [Nat.zero_add]
  exact .cons (.int _) (.cons ((rd.mono h1).mono g.b) .nil)
theorem zipD_len : ∀ (xs ys : List D), (zipD xs ys).length = min xs.length ys.length
  | [], ys => by simp [zipD]
  | x :: xs, [] => by simp [zipD]
  | x :: xs, y :: ys => by show (zipD xs ys).length + 1 = _; rw [zipD_len xs ys, List.length_cons, List.length_cons]; omega
theorem zipD_get : ∀ (xs ys : List D) (i : Nat) (x y : D), xs[i]? = some x → ys[i]? = some y → (zipD xs ys)[i]? = some (.tup [x, y])
  | [], _, _, _, _, h, _ => by simp at h
  | _ :: _, [], _, _, _, _, h => by simp at h
  | a :: xs, b :: ys, 0, x, y, h1, h2 => by
    have h1' : some a = some x := h1
    have h2' : some b = some y := h2
    cases h1'; cases h2'; rfl
  | a :: xs, b :: ys, i + 1, x, y, h1, h2 => zipD_get xs ys i x y h1 h2
theorem walkD_zip {a b : Addr} {xs ys : List V} {ds es : List D} (h1 : SqL K B a xs) (h2 : SqL K B b ys) (r1 : RepL K B xs ds) (r2 : RepL K B ys es) : WalkD K (Itz K a b) B (zipD ds es) := by
  refine ⟨_, _, walk_zip (xs := xs) (ys := ys) (by rw [zipD_len, r1.length, r2.length]), fun H e => ⟨Evl.ex_l e h1, Evl.ex_l e h2⟩, fun i H x H' B1 hi k1 k2 y => ?_⟩
  obtain ⟨T, u, v, rfl, hT, rfl, hu, hv⟩ := y
  obtain ⟨d, hd, rd⟩ := r1.get' hu
  obtain ⟨d2, hd2, rd2⟩ := r2.get' hv
  have g := Gr.new k2 hT (.tup [u, v])
  exact ⟨_, .tup [d, d2], g, zipD_get ds es i d d2 hd hd2, .tup (Evl.st_of upd_same) (.cons ((rd.mono k1).mono g.b) (.cons ((rd2.mono k1).mono g.b) .nil))⟩
end
section
variable {X : Cx} {W : WX} {e a b c tg : Expr} {pos p : Pos} {f : M O} {p1 p2 : P}
theorem i_seq (h : PE X e (tE X.K X.mg W f)) : PI X tg e (tSrc X.K X.mg W (sSeqD f)) := pi_imp (pi_any h) fun σ H R h => by
  obtain ⟨B, e, S, r, h⟩ := h
  refine ⟨B, e, S, r, h.bind.imp (fun o e' h v B' H' S' T vl fr => ?_) fun _ _ z => z⟩
  obtain ⟨B2, vl2, f2⟩ := vl.freeze
  have f3 : Fr B H (tot S) B2 H' (tot S') := fr.trans ⟨f2.b, fun a o q _ => q, fun a z => .inl (.inr z), fun a u q => (f2.c a u q).elim .inl fun z => .inr (z.elim (fun z => .inl (.inl z)) .inr), fun a o q => ⟨o, q⟩⟩
  have rv := vl2.ro.1
  have hx := vl2.rp.ex
  generalize o.d = d at *
  have h0 : Post ((seqD d).map fun ds => Ro.ok ds e') (fun ds e' => ∀ J B' H' S', Rp X.K B' H' σ e' S' → Fr B H (tot S) B' H' (tot S') → WalkD X.K J B' ds → R J H') (fun x e' => ExE X.K X.mg W B H S σ x e') := h
  cases rv with
  | non => exact h0.elim
  | bl b => exact h0.elim
  | int b => exact h0.elim
  | opq v => exact h0.elim
  | dct _ _ _ => exact h0.elim
  | ins _ _ _ _ => exact h0.elim
  | str z => exact .inr (.inr ⟨z, rfl, (show ∀ J B' H' S', Rp X.K B' H' σ e' S' → Fr B H (tot S) B' H' (tot S') → WalkD X.K J B' (signs z) → R J H' from h0) _ B2 H' S' vl2.rp f3 walkD_str⟩)
  | lst h1 h2 => exact .inl ⟨_, rfl, ⟨_, Evl.sq_of (hx _ _ h1)⟩, (show ∀ J B' H' S', Rp X.K B' H' σ e' S' → Fr B H (tot S) B' H' (tot S') → WalkD X.K J B' _ → R J H' from h0) _ B2 H' S' vl2.rp f3 (walkD_lst (Evl.sq_of h1) h2)⟩
  | tup h1 h2 => exact .inr (.inl ⟨_, rfl, ⟨_, Evl.ex_t hx h1⟩, (show ∀ J B' H' S', Rp X.K B' H' σ e' S' → Fr B H (tot S) B' H' (tot S') → WalkD X.K J B' _ → R J H' from h0) _ B2 H' S' vl2.rp f3 (walkD_tup h1 h2)⟩)
  | scr h1 => exact .inl ⟨_, rfl, ⟨_, Evl.ex_l hx h1⟩, (show ∀ J B' H' S', Rp X.K B' H' σ e' S' → Fr B H (tot S) B' H' (tot S') → WalkD X.K J B' _ → R J H' from h0) _ B2 H' S' vl2.rp f3 (walkD_lst h1 (repL_ints _))⟩
theorem inR_of {i : Int} (h : inR i = true) : -(2 ^ 62) ≤ i ∧ i < 2 ^ 62 := of_decide_eq_true h
theorem i_rng1 (hg : Gl X "range") (hm : X.mg "range" = none) (ha : PA X [a] (tPs X.K X.mg W [p1])) (hs : starEach [a] X.env = [(false, eval a X.env)] := by rfl) : PI X tg (.Call (.Name "range" p) [a] [] pos) (tSrc X.K X.mg W (sRng1 p1)) := pi_imp (pi_range1 hg hm ha hs) fun σ H R h => by
  obtain ⟨B, e, S, r, h⟩ := h
  refine ops_run [p1] _ r (h.bind.imp (fun ds e' h vs B' H' S' r' rl f => ?_) fun _ _ z => z)
  split at h
  · rename_i j
    split at h
    · rename_i hj
      obtain ⟨v, rfl, rv⟩ := rl.one
      cases rv
      obtain ⟨h1, h2⟩ := inR_of hj
      refine ⟨j, rfl, h1, h2, (show ∀ J B' H' S', Rp X.K B' H' σ e' S' → Fr B H (tot S) B' H' (tot S') → WalkD X.K J B' _ → R J H' from h) _ B' H' S' r' f ?_⟩
      have := walkD_rng (K := X.K) (B := B') (lo := 0) (hi := j)
      rwa [show j - 0 = j by omega] at this
    · exact h.elim
  · exact h.elim
theorem i_rng2 (hg : Gl X "range") (hm : X.mg "range" = none) (ha : PA X [a, b] (tPs X.K X.mg W [p1, p2])) (hs : starEach [a, b] X.env = [(false, eval a X.env), (false, eval b X.env)] := by rfl) (hs2 : starEach [b] X.env = [(false, eval b X.env)] := by rfl) : PI X tg (.Call (.Name "range" p) [a, b] [] pos) (tSrc X.K X.mg W (sRng2 p1 p2)) := pi_imp (pi_range2 hg hm ha hs hs2) fun σ H R h => by
  obtain ⟨B, e, S, r, h⟩ := h
  refine ops_run [p1, p2] _ r (h.bind.imp (fun ds e' h vs B' H' S' r' rl f => ?_) fun _ _ z => z)
  split at h
  · rename_i i j
    split at h
    · rename_i hj
      rw [Bool.and_eq_true] at hj
      cases rl with
      | cons a1 rl =>
        cases rl with
        | cons a2 rl =>
          cases rl
          cases a1; cases a2
          exact ⟨i, j, rfl, ⟨(inR_of hj.1).1, (inR_of hj.1).2, (inR_of hj.2).1, (inR_of hj.2).2⟩, (show ∀ J B' H' S', Rp X.K B' H' σ e' S' → Fr B H (tot S) B' H' (tot S') → WalkD X.K J B' _ → R J H' from h) _ B' H' S' r' f walkD_rng⟩
    · exact h.elim
  · exact h.elim
theorem i_enum {elts : List Expr} {kk : Nat} {tpos : Pos} (hg : Gl X "enumerate") (hm : X.mg "enumerate" = none) (ha : PE X e (tE X.K X.mg W f)) (hs : starEach [e] X.env = [(false, eval e X.env)] := by rfl) : PI X (.Tuple elts kk tpos) (.Call (.Name "enumerate" p) [e] [] pos) (tSrc X.K X.mg W (sEnum (.v f))) := pi_imp (pi_enum hg hm (is_c (f := f) ha is_n hs) hs) fun σ H R h => by
  obtain ⟨B, e, S, r, h⟩ := h
  refine items_run [f] _ r ?_
  have h0 := h.bind
  unfold ops at h0
  unfold items
  have h1 := h0.bind
  show Post (M.bind f _ e) _ _
  cases q : f e with
  | none => rw [q] at h1; exact h1.elim
  | some ro =>
    rw [q] at h1
    unfold M.bind
    rw [q]
    cases ro with
    | ex x e' => exact h1
    | ok o e' =>
      intro vs B' H' S' r' rl fr
      have h2 : Post (match [o.d] with
        | [.lst xs] => some (Ro.ok (enumD 0 xs) e')
        | _ => none) (fun ds e' => ∀ J B' H' S', Rp X.K B' H' σ e' S' → Fr B H (tot S) B' H' (tot S') → WalkD X.K J B' ds → R J H') (fun x e' => ExE X.K X.mg W B H S σ x e') := h1
      cases rl with
      | cons rv rl =>
        cases rl
        generalize o.d = d at *
        cases rv with
        | lst k1 k2 => exact ⟨_, _, rfl, Evl.sq_of (r'.ex _ _ k1), (show ∀ J B' H' S', Rp X.K B' H' σ e' S' → Fr B H (tot S) B' H' (tot S') → WalkD X.K J B' _ → R J H' from h2) _ B' H' S' r' fr (walkD_enum (Evl.sq_of k1) k2)⟩
        | _ => exact h2.elim
end
end Dn

namespace Dn
open PySem L2
open Evl (Ex)

/-! ## 15. Comprehensions -/
def wipeE (e : Sl) : List Nat → Sl
  | [] => e
  | v :: vs => (wipeE e vs).set v none
def restE (e0 e : Sl) : List Nat → Sl
  | [] => e
  | v :: vs => match e0[v]? with
    | some (some (.fr d)) => (restE e0 e vs).set v (some (.fr d))
    | _ => restE e0 e vs
def lcL (own : List Nat) (tg : Tg) (t : M Bool) (f : M O) : List D → List D → Sl → Option (List D × Sl)
  | [], acc, e => some (acc, e)
  | d :: ds, acc, e => match tg.go d e with
    | none => none
    | some e1 => match t e1 with
      | some (.ok b e2) => if b then (match f e2 with
          | some (.ok o e3) => if acc.length < sizeLine then lcL own tg t f ds (acc ++ [o.d]) (wipeE e3 own) else none
          | _ => none) else lcL own tg t f ds acc (wipeE e2 own)
      | _ => none
def eComp (own : List Nat) (src : M (List D)) (tg : Tg) (t : M Bool) (f : M O) : M O := src.bind fun ds e => match lcL own tg t f ds [] (wipeE e own) with
  | some (acc, e') => some (.ok (.lst acc) (restE e e' own))
  | none => none
def cYes : M Bool := M.pure true

theorem wipe_at {σ : St} {own : List Nat} {j : Nat} : (wipe σ own)[j]? = if j ∈ own then (σ[j]?).map (fun _ => none) else σ[j]? := by
  induction own with
  | nil => simp [wipe]
  | cons v vs ih =>
    unfold wipe
    by_cases hj : v = j
    · subst hj
      rw [List.getElem?_set_self', ih, if_pos List.mem_cons_self]
      by_cases hv : v ∈ vs
      · rw [if_pos hv]
        cases σ[v]? <;> simp
      · rw [if_neg hv]
        cases σ[v]? <;> simp
    · rw [List.getElem?_set_ne hj, ih]
      by_cases hv : j ∈ vs
      · rw [if_pos hv, if_pos (List.mem_cons_of_mem _ hv)]
      · rw [if_neg hv, if_neg (by rw [List.mem_cons, not_or]; exact ⟨fun z => hj z.symm, hv⟩)]
theorem wipeE_len (e : Sl) : ∀ own : List Nat, (wipeE e own).length = e.length
  | [] => rfl
  | v :: vs => by unfold wipeE; rw [List.length_set, wipeE_len e vs]
theorem wipeE_at {e : Sl} {own : List Nat} {j : Nat} {o : O} (h : (wipeE e own)[j]? = some (some o)) : j ∉ own ∧ e[j]? = some (some o) := by
  induction own with
  | nil => exact ⟨by simp, h⟩
  | cons v vs ih =>
    unfold wipeE at h
    by_cases hj : v = j
    · subst hj
      rw [List.getElem?_set_self'] at h
      cases q : (wipeE e vs)[v]? with
      | none => rw [q] at h; cases h
      | some u => rw [q] at h; cases h
    · rw [List.getElem?_set_ne hj] at h
      obtain ⟨h1, h2⟩ := ih h
      exact ⟨by rw [List.mem_cons, not_or]; exact ⟨fun z => hj z.symm, h1⟩, h2⟩
theorem restE_len (e0 e : Sl) : ∀ own : List Nat, (restE e0 e own).length = e.length
  | [] => rfl
  | v :: vs => by
    unfold restE
    split
    · rw [List.length_set, restE_len e0 e vs]
    · exact restE_len e0 e vs
theorem restE_at {e0 e : Sl} {own : List Nat} {j : Nat} {o : O} (h : (restE e0 e own)[j]? = some (some o)) : (j ∈ own ∧ e0[j]? = some (some o) ∧ ∃ d, o = .fr d) ∨ e[j]? = some (some o) := by
  induction own with
  | nil => exact .inr h
  | cons v vs ih =>
    unfold restE at h
    split at h
    · rename_i d hd
      by_cases hj : v = j
      · subst hj
        rw [List.getElem?_set_self'] at h
        cases q : (restE e0 e vs)[v]? with
        | none => rw [q] at h; cases h
        | some u =>
          rw [q] at h
          cases h
          exact .inl ⟨List.mem_cons_self, hd, d, rfl⟩
      · rw [List.getElem?_set_ne hj] at h
        rcases ih h with ⟨a, b⟩ | a
        · exact .inl ⟨List.mem_cons_of_mem _ a, b⟩
        · exact .inr a
    · rcases ih h with ⟨a, b⟩ | a
      · exact .inl ⟨List.mem_cons_of_mem _ a, b⟩
      · exact .inr a
theorem wipe_eq {σ σ' : St} {own : List Nat} (l : σ.length = σ'.length) (h : ∀ j : Nat, j ∉ own → σ[j]? = σ'[j]?) : wipe σ own = wipe σ' own := by
  apply List.ext_getElem?
  intro j
  rw [wipe_at, wipe_at]
  by_cases hj : j ∈ own
  · rw [if_pos hj, if_pos hj]
    by_cases hl : j < σ.length
    · rw [List.getElem?_eq_getElem hl, List.getElem?_eq_getElem (l ▸ hl)]; rfl
    · rw [List.getElem?_eq_none (by omega), List.getElem?_eq_none (by omega)]
  · rw [if_neg hj, if_neg hj]; exact h j hj
theorem wipe_wipe (σ : St) (own : List Nat) : wipe (wipe σ own) own = wipe σ own := by
  refine wipe_eq (wipe_length σ own) fun j hj => ?_
  rw [wipe_at, if_neg hj]

section
variable {K : PySem.W.Frag} {mg : Str → Option Value} {W : WX} {B B' H H' : Hp} {v : V} {o : O} {σ σ' : St} {e e' : Sl} {S S' : Nat → Addr → Prop} {T T' : Addr → Prop}
theorem Rp.wipe (r : Rp K B H σ e S) (own : List Nat) : Rp K B H (L2.wipe σ own) (wipeE e own) S :=
  ⟨by rw [wipe_length, wipeE_len]; exact r.len, r.ex, fun i o ho => by
    obtain ⟨h1, h2⟩ := wipeE_at ho
    obtain ⟨v, h3, h4⟩ := r.rep i o h2
    exact ⟨v, by rw [wipe_at, if_neg h1]; exact h3, h4⟩, r.dis, r.own⟩
theorem Rp.upd (r : Rp K B H σ e S) {p : Addr} {u : HO} (hb : B p = none) (hs : ∀ i, ¬ S i p) : Rp K B (upd H p u) σ e S := by
  refine ⟨r.len, fun a o ha => ?_, fun i o ho => ?_, r.dis, fun i a ha => ⟨(r.own i a ha).1, ?_⟩⟩
  · by_cases hp : a = p
    · subst hp; rw [hb] at ha; cases ha
    · rw [upd_ne hp]; exact r.ex a o ha
  · obtain ⟨v, h1, h2⟩ := r.rep i o ho
    refine ⟨v, h1, ?_⟩
    cases o with
    | fr d => exact h2
    | lst ds =>
      obtain ⟨q, xs, e1, h3, h4, h5⟩ := h2
      refine ⟨q, xs, e1, ?_, h4, h5⟩
      rw [upd_ne]
      · exact h3
      · intro z
        exact hs i ((h5 p).mpr z.symm)
    | dct kvs =>
      obtain ⟨q, kv, e1, h3, hk, h4, h5⟩ := h2
      refine ⟨q, kv, e1, ?_, hk, h4, h5⟩
      rw [upd_ne]
      · exact h3
      · intro z
        exact hs i ((h5 p).mpr z.symm)
    | ins c ns xs =>
      obtain ⟨q, C, dx, fs, e1, h3, hc, hk, h4, h5⟩ := h2
      refine ⟨q, C, dx, fs, e1, ?_, hc, hk, h4, h5⟩
      rw [upd_ne]
      · exact h3
      · intro z
        exact hs i ((h5 p).mpr z.symm)
    | exn a d x => exact h2
  · by_cases hp : a = p
    · exact ⟨u, by rw [hp]; exact upd_same⟩
    · obtain ⟨_, o, h⟩ := r.own i a ha
      exact ⟨o, by rw [upd_ne hp]; exact h⟩
theorem Fr.both (f : Fr B H T B' H' T') (U : Addr → Prop) : Fr B H (fun a => U a ∨ T a) B' H' (fun a => U a ∨ T' a) :=
  ⟨f.b, fun a o h n => f.k a o h fun z => n (.inr z), fun a z => z.elim (fun z => .inl (.inl z)) fun z => (f.n a z).elim (fun z => .inl (.inr z)) .inr, fun a o h => (f.c a o h).elim .inl fun z => .inr (z.elim (fun z => .inl (.inr z)) .inr), f.a⟩
theorem Fr.upd {p : Addr} {u u' : HO} (h : H p = some u) (hT : T p) : Fr B H T B (upd H p u') T :=
  ⟨Ex.refl B, fun a o ha hn => by rw [upd_ne (fun z => hn (by rw [z]; exact hT))]; exact ha, fun _ z => .inl z, fun _ _ z => .inl z, fun a o ha => by
    by_cases hp : a = p
    · exact ⟨u', by rw [hp]; exact upd_same⟩
    · exact ⟨o, by rw [upd_ne hp]; exact ha⟩⟩
theorem setAll_slen : ∀ (is : List Nat) (ds : List D) {e e2 : Sl}, setAll is ds e = some e2 → e2.length = e.length
  | [], [], e, e2, h => by cases h; rfl
  | [], _ :: _, _, _, h => by cases h
  | _ :: _, [], _, _, h => by cases h
  | i :: is, d :: ds, e, e2, h => by
    rw [setAll_slen is ds (e := e.set i (some (.fr d))) h, List.length_set]
theorem go_len {tg : Tg} {d : D} {e e2 : Sl} (h : tg.go d e = some e2) : e2.length = e.length := by
  cases tg with
  | n i => cases h; rw [List.length_set]
  | t is =>
    cases d with
    | tup ds => exact setAll_slen is ds h
    | _ => cases h
/-- a new list of one's own beside the slots, changed in place -/
theorem comp_run {own : List Nat} {tg : Tg} {t : M Bool} {f : M O} {src : M (List D)} {Q : VK} (hk : ∀ i ∈ tg.ix, i ∈ own) (h : tE K mg W (eComp own src tg t f) σ H Q) :
    tLc (tSrc K mg W src) (tTg K tg) (tT K mg (fun _ _ _ _ => False) t) (tE K mg (fun _ _ _ _ => False) f) own σ H Q := by
  obtain ⟨B, e, S, r, h⟩ := h
  refine ⟨B, e, S, r, h.bind.imp (fun ds e1 h J B1 H1 S1 r1 f1 wd D hD => ?_) fun _ _ z => z⟩
  obtain ⟨G, Y, wk, hG, hY⟩ := wd
  cases q : lcL own tg t f ds [] (wipeE e1 own) with
  | none => rw [q] at h; exact h.elim
  | some res =>
    obtain ⟨accF, eF⟩ := res
    rw [q] at h
    have h0 : ∀ v B' H' S' T, Vl K B' H' σ (restE e1 eF own) S' v (.lst accF) T → Fr B H (tot S) B' H' (fun a => T a ∨ tot S' a) → Q v H' := h
    have hbD : B1 D = none := by
      cases qd : B1 D with
      | none => rfl
      | some u => have := r1.ex D u qd; rw [hD] at this; cases this
    have hsD : ∀ i, ¬ S1 i D := fun i z => by
      obtain ⟨_, o, ho⟩ := r1.own i D z
      rw [hD] at ho; cases ho
    have own1 : Own B1 (upd H1 D (.lst [])) (fun a => a = D) := fun a ha => by subst ha; exact ⟨hbD, _, upd_same⟩
    refine lc_it wk (fun i H' => ∃ B' e' S' acc, Vl K B' H' (wipe σ own) e' S' (.ref D) (.lst acc) (fun a => a = D) ∧ Fr B H (tot S) B' H' (fun a => a = D ∨ tot S' a) ∧ Ex B1 B' ∧ lcL own tg t f (ds.drop i) acc e' = some (accF, eF))
      ⟨B1, wipeE e1 own, S1, [], ⟨(r1.upd hbD hsD).wipe own, ⟨D, [], rfl, upd_same, .nil, fun a => Iff.rfl⟩, own1, fun a ha ⟨i, z⟩ => hsD i (ha ▸ z)⟩, ?_, Ex.refl _, by rw [List.drop_zero]; exact q⟩
      (fun i H' hi ⟨B', e', S', acc, vl, f', x', h'⟩ => hG _ (x'.trans vl.rp.ex)) (fun i x H' H2 hi ⟨B', e', S', acc, vl, f', x', h'⟩ hy => ?_) fun H' ⟨B', e', S', acc, vl, f', x', h'⟩ => ?_
    · refine f1.trans ⟨Ex.refl _, fun a o ha _ => ?_, fun a z => z.elim (fun z => .inr (by rw [z]; exact hD)) .inl, fun _ _ z => .inl z, fun a o ha => ⟨o, ?_⟩⟩
      · rw [upd_ne (ne_of_none ha hD)]; exact ha
      · rw [upd_ne (ne_of_none ha hD)]; exact ha
    · obtain ⟨B2, d, gr, hd, rv⟩ := hY i H' x H2 B' hi x' vl.rp.ex hy
      have ed : ds.drop i = d :: ds.drop (i + 1) := by
        rw [List.drop_eq_getElem_cons hi]
        rw [List.getElem?_eq_getElem hi] at hd
        cases hd
        rfl
      rw [ed] at h'
      unfold lcL at h'
      have r2 := vl.rp.grow gr
      have ro2 := vl.ro.grow gr
      have ow2 := vl.own.grow gr
      cases qt : tg.go d e' with
      | none => rw [qt] at h'; cases h'
      | some e2 =>
        rw [qt] at h'
        dsimp only at h'
        refine tg_run (ks := []) r2 rv qt (fun _ _ z => nomatch z) fun σ3 S3 r3 _ t3 n3 => ?_
        have wσ : wipe σ3 own = wipe σ own := by
          rw [← wipe_wipe σ own]
          exact wipe_eq (r3.len.trans ((go_len qt).trans r2.len.symm)) fun j hj => n3 j fun z => hj (hk j z)
        refine ⟨wσ, B2, e2, S3, r3, ?_⟩
        have dj3 : ∀ a, a = D → ¬ tot S3 a := fun a ha z => vl.dj a ha (t3 a z)
        have f3 : Fr B H (tot S) B2 H2 (fun a => a = D ∨ tot S3 a) := (f'.trans (gr.fr _)).imp (fun _ z => z) fun a z => z.elim .inl fun z => .inr (t3 a z)
        cases qc : t e2 with
        | none => rw [qc] at h'; cases h'
        | some rc =>
          rw [qc] at h'
          cases rc with
          | ex _ _ => cases h'
          | ok b e4 =>
            intro B4 H4 S4 r4 f4
            obtain ⟨ro4, ow4, dj4⟩ := ro2.frame ow2 dj3 f4
            have f34 := f3.trans (f4.both fun a => a = D)
            cases b with
            | false =>
              exact iteF ⟨B4, _, S4, acc, ⟨by rw [← wσ]; exact r4.wipe own, ro4, ow4, dj4⟩, f34, (x'.trans gr.b).trans f4.b, h'⟩
            | true =>
              refine iteT ⟨B4, e4, S4, r4, ?_⟩
              cases qf : f e4 with
              | none => simp only [qf, if_true] at h'; cases h'
              | some rf =>
                simp only [qf, if_true] at h'
                cases rf with
                | ex _ _ => cases h'
                | ok o e5 =>
                  intro y B5 H5 S5 T5 vl5 f5
                  obtain ⟨B6, vl6, f6⟩ := vl5.freeze
                  have f56 : Fr B4 H4 (tot S4) B6 H5 (tot S5) := f5.trans ⟨f6.b, fun a o q _ => q, fun a z => .inl (.inr z), fun a u q => (f6.c a u q).elim .inl fun z => .inr (z.elim (fun z => .inl (.inl z)) .inr), fun a o q => ⟨o, q⟩⟩
                  obtain ⟨ro6, ow6, dj6⟩ := ro4.frame ow4 dj4 f56
                  obtain ⟨p, xs, ep, hp, rl, hs⟩ := ro6
                  cases ep
                  dsimp only at h'
                  split at h'
                  · rename_i hlen
                    refine ⟨xs, hp, by rw [rl.length]; exact hlen, B6, _, S5, _, ⟨?_, ⟨D, _, rfl, upd_same, rl.append (.one vl6.ro.1), fun a => Iff.rfl⟩, fun a ha => ⟨(ow6 a ha).1, by subst ha; exact ⟨_, upd_same⟩⟩, dj6⟩, ?_, (x'.trans gr.b).trans (f4.b.trans f56.b), h'⟩
                    · rw [← wσ]
                      exact (vl6.rp.wipe own).upd (ow6 D rfl).1 fun i z => dj6 D rfl ⟨i, z⟩
                    · exact (f34.trans (f56.both fun a => a = D)).trans (Fr.upd hp (.inl rfl))
                  · cases h'
    · rw [List.drop_length] at h'
      have h2 : some (acc, e') = some (accF, eF) := h'
      cases h2
      refine h0 (.ref D) B' H' (fun j => if j ∈ own then noS else S' j) (fun a => a = D) ⟨⟨by rw [restE_len, ← vl.rp.len, wipe_length], vl.rp.ex, fun j o ho => ?_, fun i j a h1 h2 => ?_, fun j a h1 => ?_⟩, vl.ro, vl.own, fun a ha ⟨j, z⟩ => ?_⟩ (f'.imp (fun _ z => z) fun a z => z.elim .inl fun ⟨j, z⟩ => ?_)
      · have hin : ∀ o, eF[j]? = some (some o) → j ∉ own := fun o ho hj => by
          obtain ⟨v, hv, _⟩ := vl.rp.rep j o ho
          rw [wipe_at, if_pos hj] at hv
          cases qq : σ[j]? with
          | none => rw [qq] at hv; cases hv
          | some u => rw [qq] at hv; cases hv
        rcases restE_at ho with ⟨a, b, d, rfl⟩ | a
        · obtain ⟨v, hv, ro⟩ := r1.rep j _ b
          exact ⟨v, hv, by rw [if_pos a]; exact ⟨ro.1.mono x', fun _ z => z⟩⟩
        · obtain ⟨v, hv, ro⟩ := vl.rp.rep j o a
          have hj := hin o a
          rw [wipe_at, if_neg hj] at hv
          exact ⟨v, hv, by rw [if_neg hj]; exact ro⟩
      · skip
        by_cases hi : i ∈ own
        · rw [if_pos hi] at h1; exact h1.elim
        · by_cases hj : j ∈ own
          · rw [if_pos hj] at h2; exact h2.elim
          · rw [if_neg hi] at h1; rw [if_neg hj] at h2; exact vl.rp.dis i j a h1 h2
      · skip
        by_cases hj : j ∈ own
        · rw [if_pos hj] at h1; exact h1.elim
        · rw [if_neg hj] at h1; exact vl.rp.own j a h1
      · dsimp only at z
        by_cases hj : j ∈ own
        · rw [if_pos hj] at z; exact z.elim
        · rw [if_neg hj] at z; exact vl.dj a ha ⟨j, z⟩
      · dsimp only at z
        by_cases hj : j ∈ own
        · rw [if_pos hj] at z; exact z.elim
        · rw [if_neg hj] at z; exact .inr ⟨j, z⟩
end
section
variable {X : Cx} {W : WX}
abbrev WF : WX := fun _ _ _ _ => False
theorem d_comp {elt tgt iter : Expr} {ifs : List Expr} {scope : Scope} {own : List (Str × Nat)} {pos : Pos} {src : M (List D)} {tg : Tg} {t : M Bool} {f : M O} (hc : X.calm = true) (hN : X.N.Nodup) (hi : PI X tgt iter (tSrc X.K X.mg W src)) (ok : BlkOk X.N X.env.scope scope own)
    (hg : ∀ (s : Shared) (H : Hp) (C : Addr) (cl : List (Str × Addr)) (fp : List Addr), PG (X.blk s H scope (compEnvC scope cl C X.env) fp) tgt (tTg X.K tg)) (ht : ∀ (s : Shared) (H : Hp) (C : Addr) (cl : List (Str × Addr)) (fp : List Addr), PTs (X.blk s H scope (compEnvC scope cl C X.env) fp) ifs (tT X.K X.mg WF t))
    (he : ∀ (s : Shared) (H : Hp) (C : Addr) (cl : List (Str × Addr)) (fp : List Addr), PE (X.blk s H scope (compEnvC scope cl C X.env) fp) elt (tE X.K X.mg WF f)) (hk : ∀ i ∈ tg.ix, i ∈ own.map (·.2)) (hs : ∀ x, foldedSetIterable iter X.env x = pure x := by intro _; rfl) :
    PE X (.ListComp elt [⟨tgt, iter, ifs, 0⟩] scope pos) (tE X.K X.mg W (eComp (own.map (·.2)) src tg t f)) := pe_imp (pe_lc hc hN hi ok hg ht he hs) fun _ _ _ h => comp_run hk h
theorem s_setLc {ks : List Nat} {i : Nat} {y : Str} {py : Pos} {elt tgt iter : Expr} {ifs : List Expr} {scope : Scope} {own : List (Str × Nat)} {pos spos : Pos} {src : M (List D)} {tg : Tg} {t : M Bool} {f : M O} (hc : X.calm = true) (hN : X.N.Nodup) (hy : X.N[i]? = some y) (hyl : X.env.scope.names.lookup y = some .local)
    (hsw : swapsWith (.ListComp elt [⟨tgt, iter, ifs, 0⟩] scope pos) (some (.Name y py)) spos.line X.env = pure true) (hi : PI X tgt iter (tSrc X.K X.mg W src)) (ok : BlkOk X.N X.env.scope scope own)
    (hg : ∀ (s : Shared) (H : Hp) (C : Addr) (cl : List (Str × Addr)) (fp : List Addr), PG (X.blk s H scope (compEnvC scope cl C X.env) fp) tgt (tTg X.K tg)) (ht : ∀ (s : Shared) (H : Hp) (C : Addr) (cl : List (Str × Addr)) (fp : List Addr), PTs (X.blk s H scope (compEnvC scope cl C X.env) fp) ifs (tT X.K X.mg WF t))
    (he : ∀ (s : Shared) (H : Hp) (C : Addr) (cl : List (Str × Addr)) (fp : List Addr), PE (X.blk s H scope (compEnvC scope cl C X.env) fp) elt (tE X.K X.mg WF f)) (hk : ∀ i ∈ tg.ix, i ∈ own.map (·.2)) (hki : i ∉ ks := by decide) (hs : ∀ x, foldedSetIterable iter X.env x = pure x := by intro _; rfl) :
    PS X (.Assign [.Name y py] (.ListComp elt [⟨tgt, iter, ifs, 0⟩] scope pos) spos) (tS X.K X.mg W ks (sSet i (eComp (own.map (·.2)) src tg t f))) := ps_imp (ps_setLc hc hN hy hyl hsw hi ok hg ht he hs) fun D σ H h => by
  obtain ⟨B, e, S, r, h⟩ := h
  refine comp_run (mg := X.mg) (W := W) hk ⟨B, e, S, r, h.bind.imp (fun o e' h v B' H' S' T vl f => ?_) fun _ _ z => ExS.toE z⟩
  exact h _ B' H' _ (vl.set i) (Kp.set hki) f.sets
theorem pts_y : PTs X [] (tT X.K X.mg W cYes) := ⟨fun pins s σ H Q I h => by
  obtain ⟨B, e, S, r, h⟩ := h
  exact pts_nil.run pins s σ H Q I (h B H S r (Fr.refl _ _ _))⟩
theorem pts_1 {c : Expr} {t : M Bool} (h : PT X c (tT X.K X.mg W t)) : PTs X [c] (tT X.K X.mg W t) := pts_one h
end
end Dn

namespace Dn
open PySem L2
open Evl (Ex)

/-! ## 16. Methods of texts and of lists that are read -/
def apM (chk : D → Bool) (g : List D → Option O) (p : P) (ps : List P) : M O := match p with
  | .b i => fun e => match e[i]? with
    | some (some o) => if chk o.d then ap g (.b i :: ps) e else none
    | _ => none
  | .v f => f.bind fun o => if chk o.d then ((ops ps).bind fun ds e => (g (o.d :: ds)).map fun r => .ok r e) else M.stuck
def isStr : D → Bool
  | .str _ => true
  | _ => false
def isLst : D → Bool
  | .lst _ => true
  | _ => false
section
variable {K : PySem.W.Frag} {mg : Str → Option Value} {W : WX} {B B' H H' : Hp} {σ : St}
theorem apM_run {C : V → Hp → Prop} {chk : D → Bool} {g : List D → Option O} {p : P} {ps : List P} {r : V → List V → Hp → VK → Prop} {Q : VK} (hC : ∀ B H v d, Ex B H → Rd K B H v d → chk d = true → C v H)
    (hs : ∀ (B H : Hp) (x : V) (vs : List V) (a : D) (ds : List D) (o : O), Ex B H → Rd K B H x a → RdL K B H vs ds → g (a :: ds) = some o → ∀ Q : VK, Giv K B H o Q → r x vs H Q)
    (h : tE K mg W (apM chk g p ps) σ H Q) : tP K mg W p σ H fun x H1 => C x H1 ∧ tPs K mg W ps σ H1 fun vs H2 => r x vs H2 Q := by
  obtain ⟨B, e, S, rp, h⟩ := h
  cases p with
  | b i =>
    unfold apM at h
    dsimp only at h
    cases q : e[i]? with
    | none => rw [q] at h; exact h.elim
    | some u =>
      cases u with
      | none => rw [q] at h; exact h.elim
      | some o =>
        rw [q] at h
        dsimp only at h
        obtain ⟨v, hv, ro⟩ := rp.rep i o q
        by_cases hc : chk o.d = true
        · rw [if_pos hc] at h
          refine ⟨v, hv, hC B H v _ rp.ex (ro.rd rp.ex) hc, ?_⟩
          have h1 := Post.bind (show Post (M.bind (ops (.b i :: ps)) (fun ds e => (g ds).map fun o => .ok o e) e) _ _ from h)
          unfold ops at h1
          rw [q] at h1
          dsimp only at h1
          refine ops_run ps _ rp (h1.bind.imp (fun ds e' h vs B' H' S' r' rl f => ?_) fun _ _ z => z)
          cases q' : e'[i]? with
          | none => rw [q'] at h; exact h.elim
          | some u' =>
            cases u' with
            | none => rw [q'] at h; exact h.elim
            | some o' =>
              rw [q'] at h
              obtain ⟨v', hv', ro'⟩ := r'.rep i o' q'
              rw [hv] at hv'; cases hv'
              obtain ⟨res, hr, h2⟩ := ap_end h
              exact hs B' H' v vs _ _ res r'.ex (ro'.rd r'.ex) rl hr Q (r'.giv fun v B2 H2 S2 T vl f2 => h2 v B2 H2 S2 T vl (f.trans f2))
        · rw [if_neg hc] at h; exact h.elim
  | v f =>
    refine ⟨B, e, S, rp, (show Post (M.bind f _ e) _ _ from h).bind.imp (fun o e1 h v B1 H1 S1 T vl f1 => ?_) fun _ _ z => z⟩
    by_cases hc : chk o.d = true
    · rw [if_pos hc] at h
      refine ⟨hC B1 H1 v _ vl.rp.ex (vl.ro.rd vl.rp.ex) hc, ?_⟩
      have f1' : Fr B H (tot S) B1 H1 (tot S1) := f1.imp (fun _ z => z) fun _ z => .inr z
      refine ops_run ps _ vl.rp (h.bind.imp (fun ds e' h vs B' H' S' r' rl f2 => ?_) fun x e' z => z.step f1')
      obtain ⟨res, hr, h2⟩ := ap_end h
      obtain ⟨ro, _, _⟩ := vl.ro.frame vl.own vl.dj f2
      exact hs B' H' v vs _ _ res r'.ex (ro.rd r'.ex) rl hr Q (r'.giv fun v B2 H2 S2 T vl f3 => h2 v B2 H2 S2 T vl ((f1'.trans f2).trans f3))
    · rw [if_neg hc] at h; exact h.elim
theorem chk_str {v : V} {d : D} (h : Rd K B H v d) (hc : isStr d = true) : ∃ a, v = .str a := by
  cases d with
  | str s => cases h; exact ⟨_, rfl⟩
  | _ => cases hc
theorem chk_lst {v : V} {d : D} (h : Rd K B H v d) (hc : isLst d = true) : tyV K "list" v H := by
  cases d with
  | lst s => obtain ⟨a, xs, rfl, h1, h2⟩ := h; exact .inl ⟨rfl, _, Evl.sq_of h1⟩
  | _ => cases hc
def SndM (K : PySem.W.Frag) (r : V → List V → Hp → VK → Prop) (g : List D → Option O) : Prop := ∀ (B H : Hp) (x : V) (vs : List V) (a : D) (ds : List D) (o : O), Ex B H → Rd K B H x a → RdL K B H vs ds → g (a :: ds) = some o → ∀ Q : VK, Giv K B H o Q → r x vs H Q
end
section
variable {X : Cx} {W : WX} {o e : Expr} {es : List Expr} {p q : P} {ps : List P} {G : List D → Option O} {id : String} {name : Str} {apos pos : Pos} {r : V → List V → Hp → VK → Prop}
theorem d_m1 (slot : Slot "str" name id) (ty : typeOf (.builtin id) = pure (.type "method_descriptor")) (rule : MtR X id r) (hs : SndM X.K r G) (ho : PE X o (tP X.K X.mg W p)) (he : PE X e (tP X.K X.mg W q))
    (hst : starEach [e] X.env = [(false, eval e X.env)] := by rfl) (hbase : attributeBase o name X.env (eval o X.env) = eval o X.env := by rfl) (hline : (apos.endLine == pos.line) = true := by rfl) :
    PE X (.Call (.Attribute o name apos) [e] [] pos) (tE X.K X.mg W (apM isStr G p [q])) := pe_imp (pe_m1 slot ty rule ho he hst hbase hline) fun σ H Q h => apM_run (fun B H v d _ h c => chk_str h c) hs h
theorem d_m0 (slot : Slot "str" name id) (ty : typeOf (.builtin id) = pure (.type "method_descriptor")) (rule : MtR X id r) (hs : SndM X.K r G) (ho : PE X o (tP X.K X.mg W p))
    (hbase : attributeBase o name X.env (eval o X.env) = eval o X.env := by rfl) (hline : (apos.endLine == pos.line) = true := by rfl) :
    PE X (.Call (.Attribute o name apos) [] [] pos) (tE X.K X.mg W (apM isStr G p [])) := pe_imp (pe_m0 slot ty rule ho hbase hline) fun σ H Q h => apM_run (fun B H v d _ h c => chk_str h c) hs h
end
def gJoin : List D → Option O
  | [.str a, .lst ds] => (strsD ds).bind fun ys => if (ys.map (·.length)).sum + ys.length * a.length ≤ 16777216 then some (sO (Txt.join a ys)) else none
  | _ => none
def gCount : List D → Option O
  | [.str a, .str b] => some (iO (Txt.count a b))
  | _ => none
def gStarts : List D → Option O
  | [.str a, .str b] => some (bO (Txt.startswith a b))
  | _ => none
def gRstrip : List D → Option O
  | [.str a, .str b] => if a.length ≤ sizeLine then some (sO (Txt.rstripChars a b)) else none
  | _ => none
def gSIndex : List D → Option O
  | [.str a, .str b] => match Builtin.Str.occurrences a b 0 a.length 1 with
    | i :: _ => some (iO (i : Nat))
    | [] => none
  | _ => none
def gSplit : List D → Option O
  | [.str a, .str b] => if (b.length == 0) = false ∧ a.length + 2 ≤ sizeLine then some (.lst ((Txt.split a b).map .str)) else none
  | _ => none
theorem RdL.nil' {K : PySem.W.Frag} {B H : Hp} {vs : List V} (h : RdL K B H vs []) : vs = [] := by cases h; rfl
theorem n_join {K : PySem.W.Frag} : SndM K (fun x xs H Q => ∃ a p, ∃ ys : List Str, x = .str a ∧ xs = [.ref p] ∧ (SqL K H p (ys.map V.str) ∨ SqT K H p (ys.map V.str)) ∧ (ys.map (·.length)).sum + ys.length * a.length ≤ 16777216 ∧ Q (.str (Txt.join a ys)) H) gJoin := fun B H x vs a ds o hx hr hl hg Q q => by
  unfold gJoin at hg
  split at hg
  · rename_i h; cases h
    obtain ⟨ys, e1, hg⟩ := Option.bind_eq_some_iff.mp hg
    split at hg
    · rename_i hz
      cases hg; cases hr
      obtain ⟨v, rfl, rv⟩ := hl.one
      obtain ⟨p, xs, rfl, h1, h2⟩ := rv
      rw [strsD_map e1] at h2
      rw [repL_of_strs h2] at h1
      exact ⟨_, _, ys, rfl, rfl, .inl (Evl.sq_of h1), hz, q.fr hx (.str _)⟩
    · cases hg
  · cases hg
theorem n_count {K : PySem.W.Frag} : SndM K (fun x xs H Q => ∃ a b, x = .str a ∧ xs = [.str b] ∧ Q (.int (Txt.count a b)) H) gCount := fun B H x vs a ds o hx hr hl hg Q q => by
  unfold gCount at hg
  split at hg
  · rename_i h; cases h; cases hg; cases hr
    obtain ⟨v, rfl, rv⟩ := hl.one
    cases rv
    exact ⟨_, _, rfl, rfl, q.fr hx (.int _)⟩
  · cases hg
theorem n_starts {K : PySem.W.Frag} : SndM K (fun x xs H Q => ∃ a b, x = .str a ∧ xs = [.str b] ∧ Q (.bl (Txt.startswith a b)) H) gStarts := fun B H x vs a ds o hx hr hl hg Q q => by
  unfold gStarts at hg
  split at hg
  · rename_i h; cases h; cases hg; cases hr
    obtain ⟨v, rfl, rv⟩ := hl.one
    cases rv
    exact ⟨_, _, rfl, rfl, q.fr hx (.bl _)⟩
  · cases hg
theorem n_rstrip {K : PySem.W.Frag} : SndM K (fun x xs H Q => ∃ a b, x = .str a ∧ xs = [.str b] ∧ a.length ≤ sizeLine ∧ Q (.str (Txt.rstripChars a b)) H) gRstrip := fun B H x vs a ds o hx hr hl hg Q q => by
  unfold gRstrip at hg
  split at hg
  · rename_i h; cases h
    split at hg
    · rename_i hz
      cases hg; cases hr
      obtain ⟨v, rfl, rv⟩ := hl.one
      cases rv
      exact ⟨_, _, rfl, rfl, hz, q.fr hx (.str _)⟩
    · cases hg
  · cases hg
theorem n_sindex {K : PySem.W.Frag} : SndM K (fun x xs H Q => ∃ a b i rest, x = .str a ∧ xs = [.str b] ∧ Builtin.Str.occurrences a b 0 a.length 1 = i :: rest ∧ Q (.int (i : Nat)) H) gSIndex := fun B H x vs a ds o hx hr hl hg Q q => by
  unfold gSIndex at hg
  split at hg
  · rename_i h; cases h
    split at hg
    · rename_i i rest hz
      cases hg; cases hr
      obtain ⟨v, rfl, rv⟩ := hl.one
      cases rv
      exact ⟨_, _, i, rest, rfl, rfl, hz, q.fr hx (.int _)⟩
    · cases hg
  · cases hg
theorem n_split {K : PySem.W.Frag} : SndM K (fun x xs H Q => ∃ a b, x = .str a ∧ xs = [.str b] ∧ (b.length == 0) = false ∧ a.length + 2 ≤ sizeLine ∧ rNewStrs (Txt.split a b) H Q) gSplit := fun B H x vs a ds o hx hr hl hg Q q => by
  unfold gSplit at hg
  split at hg
  · rename_i h; cases h
    split at hg
    · rename_i hz
      cases hg; cases hr
      obtain ⟨v, rfl, rv⟩ := hl.one
      cases rv
      exact ⟨_, _, rfl, rfl, hz.1, hz.2, fun p hp => q.newL hx (repL_strs _) hp⟩
    · cases hg
  · cases hg

/-! ## 17. isinstance with a built-in class -/
def isi (T : String) : D → Option Bool
  | .non => kitB "NoneType" T
  | .bl _ => kitB "bool" T
  | .int _ => kitB "int" T
  | .str _ => kitB "str" T
  | .lst _ => kitB "list" T
  | .scr _ => kitB "list" T
  | .tup _ => kitB "tuple" T
  | _ => none
def gIsi (T : String) : List D → Option O
  | [d] => (isi T d).map bO
  | _ => none
theorem tyx_lst {K : PySem.W.Frag} {H : Hp} {a : Addr} {xs : List V} (h : SqL K H a xs) : TyX K H (.ref a) (.type "list") := by
  rcases h with (h | ⟨o, h⟩) | ⟨o, its, n, h, c, _⟩
  · exact .base (.lst h)
  · exact .base (.frz h)
  · exact .kList h c
theorem tyx_tup {K : PySem.W.Frag} {H : Hp} {a : Addr} {xs : List V} (h : SqT K H a xs) : TyX K H (.ref a) (.type "tuple") := by
  rcases h with (h | ⟨o, h⟩) | ⟨o, its, n, h, c, _⟩
  · exact .base (.tup h)
  · exact .fTuple h
  · exact .kTuple h c
theorem n_isi {K : PySem.W.Frag} {T : String} : SndN K (fun vs H Q => rIsi K (vs ++ [.ty T]) H Q) (gIsi T) := fun B H vs ds o hx hr hg Q q => by
  unfold gIsi at hg
  split at hg
  · obtain ⟨b, hb, rfl⟩ := Option.map_eq_some_iff.mp hg
    obtain ⟨v, rfl, rv⟩ := hr.one
    rename_i d
    have go : ∀ t, TyX K H v (.type t) → kitB t T = some b → rIsi K ([v] ++ [.ty T]) H Q := fun t ty e => ⟨v, _, _, _, b, rfl, .ty T, ty, kit_ty e, q.fr hx (.bl _)⟩
    cases d with
    | non => cases rv; exact go _ (.base .non) hb
    | bl _ => cases rv; exact go _ (.base (.bl _)) hb
    | int _ => cases rv; exact go _ (.base (.int _)) hb
    | str _ => cases rv; exact go _ (.base (.str _)) hb
    | lst _ => obtain ⟨a, xs, rfl, h1, h2⟩ := rv; exact go _ (tyx_lst (Evl.sq_of h1)) hb
    | tup _ => cases rv with
      | tup h1 h2 => exact go _ (tyx_tup (Evl.ex_t hx h1)) hb
    | scr _ => cases rv with
      | scr h1 => exact go _ (tyx_lst (Evl.ex_l hx h1)) hb
    | opq => cases hb
    | dct _ _ => cases hb
    | ins _ _ _ => cases hb
  · cases hg
section
variable {X : Cx} {W : WX} {e : Expr} {p : P} {p1 p2 pos : Pos} {T : String}
theorem d_isi {x : Str} (hg : Gl X "isinstance") (hm : X.mg "isinstance" = none) (hgT : Gl X x) (hmT : X.mg x = none) (hvT : bootBuiltins x = some (.type T)) (hv : bootBuiltins "isinstance" = some (.builtin "isinstance")) (ha : PE X e (tP X.K X.mg W p)) (hn : x ≠ "__name__" := by decide) (hdb : (x == ("__debug__" : Str)) = false := by decide)
    (hs1 : starEach (e :: [.Name x p2]) X.env = (false, eval e X.env) :: starEach [.Name x p2] X.env := by rfl) (hs2 : starEach (.Name x p2 :: []) X.env = (false, eval (.Name x p2) X.env) :: starEach [] X.env := by rfl)
    (hpl : (backTo pos (starEach [.Name x p2] X.env)).any (·.1) = false := by rfl) : PE X (.Call (.Name "isinstance" p1) [e, .Name x p2] [] pos) (tE X.K X.mg W (ap (gIsi T) [p])) :=
  pe_imp (pe_callB call_isi hg hm hv (pa_cons ha (pa_cons (pe_bltn hgT hmT hvT (v := .ty T) rfl hn hdb) pa_nil hs2) hs1) (by decide) (by decide) hs1 hpl) fun _ _ _ h => apN_run (n_isi) _ h
end

/-! ## 18. Slices -/
def cutD {α : Type} (xs : List α) (lo hi : Option Int) : List α := (xs.drop (HT.sIx xs.length 0 lo)).take (HT.sIx xs.length xs.length hi - HT.sIx xs.length 0 lo)
def eI (f : M O) : M O := f.bind fun o => match o with
  | .fr (.int i) => M.pure (.fr (.int i))
  | _ => M.stuck
def gRevS : List D → Option O
  | [.lst ds] => some (.lst ds.reverse)
  | _ => none
def slD (d : D) (lo hi : Option Int) : Option O := match d with
  | .lst ds => some (.lst (cutD ds lo hi))
  | .tup ds => some (.fr (.tup (cutD ds lo hi)))
  | .scr ns => some (.lst ((cutD ns lo hi).map .int))
  | .str z => if z.length ≤ sizeLine then some (sO (cutS z lo hi)) else none
  | _ => none
def parts (lo hi : Bool) : List D → Option (D × Option Int × Option Int)
  | d :: ds => match lo, hi, ds with
    | false, false, [] => some (d, none, none)
    | true, false, [.int i] => some (d, some i, none)
    | false, true, [.int j] => some (d, none, some j)
    | true, true, [.int i, .int j] => some (d, some i, some j)
    | _, _, _ => none
  | _ => none
def gSl (lo hi : Bool) (ds : List D) : Option O := (parts lo hi ds).bind fun x => slD x.1 x.2.1 x.2.2
def rSlO (K : PySem.W.Frag) : V → Option Int → Option Int → Hp → VK → Prop := fun x lo hi H Q => rSlL K x lo hi H Q ∨ rSlA K x lo hi H Q ∨ rSlS x lo hi H Q
theorem sl_any {X : Cx} : SlR X (rSlO X.K) := sl_list.or (sl_tupA.or sl_str)
theorem cut_rep {K : PySem.W.Frag} {B : Hp} {xs : List V} {ds : List D} {lo hi : Option Int} (h : RepL K B xs ds) : RepL K B (cutV xs lo hi) (cutD ds lo hi) := by
  unfold cutV cutD
  rw [h.length]
  exact (h.drop _).take _
theorem cut_ints (ns : List Int) (lo hi : Option Int) : cutV (ns.map V.int) lo hi = (cutD ns lo hi).map V.int := by
  unfold cutV cutD
  rw [List.length_map, List.map_take, List.map_drop]
theorem slD_run {K : PySem.W.Frag} {B H : Hp} {x : V} {d : D} {lo hi : Option Int} {o : O} {Q : VK} (hx : Ex B H) (h : Rd K B H x d) (e : slD d lo hi = some o) (q : Giv K B H o Q) : rSlO K x lo hi H Q := by
  unfold slD at e
  split at e
  · cases e
    obtain ⟨a, xs, rfl, h1, h2⟩ := h
    exact .inl ⟨_, _, rfl, Evl.sq_of h1, fun p hp => q.newL hx (cut_rep h2) hp⟩
  · cases e
    cases h with
    | tup h1 h2 =>
      rename_i xs
      refine .inr (.inl ⟨_, _, rfl, Evl.ex_t hx h1, fun hw => ?_, fun _ p hp => q.newT hx (cut_rep h2) hp⟩)
      refine q.fr hx (.tup h1 ?_)
      have e2 := cut_rep (lo := lo) (hi := hi) h2
      have e3 : cutV xs lo hi = xs := by
        unfold cutV
        rw [hw.1, hw.2, List.drop_zero, Nat.sub_zero, List.take_length]
      rw [e3] at e2
      exact e2
  · cases e
    cases h with
    | scr h1 => exact .inl ⟨_, _, rfl, Evl.ex_l hx h1, fun p hp => by rw [cut_ints]; exact q.newL hx (repL_ints _) hp⟩
  · split at e
    · rename_i hl
      cases e; cases h
      exact .inr (.inr ⟨_, rfl, hl, q.fr hx (.str _)⟩)
    · cases e
  · cases e
section
variable {X : Cx} {W : WX} {e a b : Expr} {p q u : P} {p2 pos : Pos}
theorem d_sl00 (h : PE X e (tP X.K X.mg W p)) : PE X (.Subscript e (.Slice none none none p2) pos) (tE X.K X.mg W (ap (gSl false false) [p])) := pe_imp (pe_slice sl_any h po_none po_none) fun σ H Q h =>
  ap1_run (r := fun x H Q => rSlO X.K x none none H Q) (fun B H x a o hx hr hg Q q => slD_run hx hr hg q) Q h
theorem d_sl10 (h : PE X e (tP X.K X.mg W p)) (ha : PE X a (tP X.K X.mg W q)) : PE X (.Subscript e (.Slice (some a) none none p2) pos) (tE X.K X.mg W (ap (gSl true false) [p, q])) := pe_imp (pe_slice sl_any h (po_some ha) po_none) fun σ H Q h =>
  ap2_run (r := fun x y H Q => ∃ i, y = .int i ∧ rSlO X.K x (some i) none H Q) (fun B H x y a b o hx hr hr2 hg Q q => by
    cases b with
    | int i => cases hr2; exact ⟨i, rfl, slD_run hx hr hg q⟩
    | _ => cases hg) Q h
theorem d_sl01 (h : PE X e (tP X.K X.mg W p)) (ha : PE X a (tP X.K X.mg W q)) : PE X (.Subscript e (.Slice none (some a) none p2) pos) (tE X.K X.mg W (ap (gSl false true) [p, q])) := pe_imp (pe_slice sl_any h po_none (po_some ha)) fun σ H Q h =>
  ap2_run (r := fun x y H Q => ∃ i, y = .int i ∧ rSlO X.K x none (some i) H Q) (fun B H x y a b o hx hr hr2 hg Q q => by
    cases b with
    | int i => cases hr2; exact ⟨i, rfl, slD_run hx hr hg q⟩
    | _ => cases hg) Q h
theorem eI_fact {K : PySem.W.Frag} {mg : Str → Option Value} {W : WX} {σ : St} {H : Hp} {f : M O} {Q : VK} (h : tE K mg W (eI f) σ H Q) : tE K mg W (eI f) σ H fun y H' => (∃ i, y = .int i) ∧ Q y H' := by
  obtain ⟨B, e, S, r, h⟩ := h
  unfold eI at h ⊢
  refine ⟨B, e, S, r, ?_⟩
  have h1 := h.bind
  show Post (M.bind f _ e) _ _
  unfold M.bind
  cases q : f e with
  | none => rw [q] at h1; exact h1
  | some ro =>
    rw [q] at h1
    cases ro with
    | ex x e' => exact h1
    | ok o e' =>
      cases o with
      | lst _ => exact h1.elim
      | dct _ _ => exact h1.elim
      | ins _ _ _ => exact h1.elim
      | exn _ _ _ => exact h1.elim
      | fr d =>
        cases d with
        | int i => exact fun v B' H' S' T vl f => ⟨by have := vl.ro.1; cases this; exact ⟨i, rfl⟩, (show ∀ v B' H' S' T, Vl K B' H' σ e' S' v (.fr (.int i)) T → Fr B H (tot S) B' H' (fun a => T a ∨ tot S' a) → Q v H' from h1) v B' H' S' T vl f⟩
        | _ => exact h1.elim
theorem tP_mono {K : PySem.W.Frag} {mg : Str → Option Value} {W : WX} (p : P) (σ : St) (H : Hp) (Q Q' : VK) (hq : ∀ v H, Q v H → Q' v H) (t : tP K mg W p σ H Q) : tP K mg W p σ H Q' := by
  cases p with
  | b i => obtain ⟨v, e, q⟩ := t; exact ⟨v, e, hq _ _ q⟩
  | v f => obtain ⟨B, e, S, r, t⟩ := t; exact ⟨B, e, S, r, t.imp (fun o e' h v B' H' S' T vl f => hq _ _ (h v B' H' S' T vl f)) fun _ _ z => z⟩
theorem d_I {f : M O} (h : PE X e (tE X.K X.mg W f)) : PE X e (tE X.K X.mg W (eI f)) := pe_imp h fun σ H Q h => by
  obtain ⟨B, e, S, r, h⟩ := h
  refine ⟨B, e, S, r, h.bind.imp (fun o e' h => ?_) fun _ _ z => z⟩
  cases o with
  | lst _ => exact h.elim
  | dct _ _ => exact h.elim
  | ins _ _ _ => exact h.elim
  | exn _ _ _ => exact h.elim
  | fr d => cases d with
    | int i => exact h
    | _ => exact h.elim
theorem d_sl11 {f g : M O} (h : PE X e (tP X.K X.mg W p)) (ha : PE X a (tE X.K X.mg W f)) (hb : PE X b (tE X.K X.mg W g)) : PE X (.Subscript e (.Slice (some a) (some b) none p2) pos) (tE X.K X.mg W (ap (gSl true true) [p, .v (eI f), .v (eI g)])) := pe_imp (pe_slice sl_any h (po_some (d_I ha)) (po_some (d_I hb))) fun σ H Q h => by
  have key : tP X.K X.mg W p σ H fun x H1 => tE X.K X.mg W (eI f) σ H1 fun y H2 => tE X.K X.mg W (eI g) σ H2 fun z H3 => ∀ x' y' z', [x, y, z] = [x', y', z'] → ∀ i j, y' = .int i → z' = .int j → rSlO X.K x' (some i) (some j) H3 Q :=
    apN_run (r := fun vs H Q => ∀ x y z, vs = [x, y, z] → ∀ i j, y = .int i → z = .int j → rSlO X.K x (some i) (some j) H Q) (fun B H vs ds o hx hr hg Q q x y z ev i j ei ej => by
    subst ev
    subst ei
    subst ej
    cases hr with
    | cons h1 hr => cases hr with
      | cons h2 hr => cases hr with
        | cons h3 hr =>
          cases hr
          rename_i d1 d2 d3
          have e2 : d2 = .int i := by cases d2 <;> first | (cases h2; done) | (rcases h2 with ⟨_, _, _, _, z, _⟩; exact V.noConfusion z) | (obtain ⟨_, _, z, _⟩ := h2; cases z; done) | (cases h2; rfl) | (have z : (none : Option O) = some o := hg; cases z)
          subst e2
          have e3 : d3 = .int j := by cases d3 <;> first | (cases h3; done) | (rcases h3 with ⟨_, _, _, _, z, _⟩; exact V.noConfusion z) | (obtain ⟨_, _, z, _⟩ := h3; cases z; done) | (cases h3; rfl) | (have z : (none : Option O) = some o := hg; cases z)
          subst e3
          exact slD_run hx h1 hg q) Q h
  refine tP_mono _ _ _ _ _ (fun x H1 t => ?_) key
  refine tP_mono (.v (eI f)) _ _ _ _ (fun y H2 t => ?_) (eI_fact t)
  obtain ⟨⟨i, rfl⟩, t⟩ := t
  refine ⟨i, rfl, tP_mono (.v (eI g)) _ _ _ _ (fun z H3 t => ?_) (eI_fact t)⟩
  obtain ⟨⟨j, rfl⟩, t⟩ := t
  exact ⟨j, rfl, t _ _ _ rfl i j rfl rfl⟩
theorem d_rev {k : Nat} {p1 p3 : Pos} (h : PE X e (tP X.K X.mg W p)) : PE X (.Subscript e (.Slice none none (some (.UnaryOp .USub (.Constant (.int 1) k p1) p2)) p3) pos) (tE X.K X.mg W (ap gRevS [p])) := pe_imp (pe_revL h) fun σ H Q h =>
  ap1_run (r := fun x H Q => ∃ a xs, x = .ref a ∧ SqL X.K H a xs ∧ ∀ p, H p = none → Q (.ref p) (upd H p (.lst xs.reverse))) (fun B H x a o hx hr hg Q q => by
    cases a with
    | lst ds =>
      cases hg
      obtain ⟨a, xs, rfl, h1, h2⟩ := hr
      exact ⟨_, _, rfl, Evl.sq_of h1, fun p hp => q.newL hx h2.reverse hp⟩
    | _ => cases hg) Q h
end
end Dn

namespace Dn
open PySem L2
open Evl (Ex)

/-! ## 19. A list of one's own, changed in place -/
def eMut1 (g : List D → D → Option (D × List D)) (i : Nat) (f : M O) : M O := fun e => match e[i]? with
  | some (some (.lst _)) => (f.bind fun o e' => match e'[i]? with
    | some (some (.lst ds)) => (match g ds o.d with
      | some (r, ds') => some (.ok (.fr r) (e'.set i (some (.lst ds'))))
      | none => none)
    | _ => none) e
  | _ => none
def eMut0 (g : List D → Option (D × List D)) (i : Nat) : M O := fun e => match e[i]? with
  | some (some (.lst ds)) => (match g ds with
    | some (r, ds') => some (.ok (.fr r) (e.set i (some (.lst ds'))))
    | none => none)
  | _ => none
def gApp (ds : List D) (d : D) : Option (D × List D) := if ds.length < sizeLine then some (.non, ds ++ [d]) else none
def gPop0 (ds : List D) (d : D) : Option (D × List D) := match d with
  | .int i => if -(2 ^ 63) ≤ i ∧ i < 2 ^ 63 then (ixN ds.length i).bind fun k => (ds[k]?).map fun y => (y, ds.eraseIdx k) else none
  | _ => none
def gPop (ds : List D) : Option (D × List D) := (ds[ds.length - 1]?).map fun y => (y, ds.dropLast)
def gExt (ds : List D) (d : D) : Option (D × List D) := match d with
  | .lst es => if ds.length + es.length ≤ sizeLine then some (.non, ds ++ es) else none
  | _ => none
def gRev (ds : List D) : Option (D × List D) := some (.non, ds.reverse)
def sSetIx (i : Nat) (fk fv : M O) : M Fl := fv.bind fun o e1 => match e1[i]? with
  | some (some (.lst _)) => (fk.bind fun k e => match e[i]? with
    | some (some (.lst ds)) => (match k with
      | .fr (.int j) => (match ixN ds.length j with
        | some n => some (.ok .next (e.set i (some (.lst (ds.set n o.d)))))
        | none => none)
      | _ => none)
    | _ => none) e1
  | _ => none

section
variable {K : PySem.W.Frag} {mg : Str → Option Value} {W : WX} {B B' H H' : Hp} {v : V} {o : O} {σ σ' : St} {e e' : Sl} {S S' : Nat → Addr → Prop} {T T' : Addr → Prop}
theorem Rp.mut (r : Rp K B H σ e S) {i : Nat} {l : Addr} {xs xs' : List V} {ds ds' : List D} (he : e[i]? = some (some (.lst ds))) (hσ : σ[i]? = some (some (.ref l))) (hl : H l = some (.lst xs)) (hr : RepL K B xs' ds') :
    Rp K B (L2.upd H l (.lst xs')) σ (e.set i (some (.lst ds'))) S ∧ Fr B H (tot S) B (L2.upd H l (.lst xs')) (tot S) := by
  obtain ⟨v, hv, p, ys, e1, h2, h3, h4⟩ := r.rep i _ he
  rw [hσ] at hv; cases hv
  cases e1
  have hS : S i l := (h4 l).mpr rfl
  have hb := (r.own i l hS).1
  have hlen : i < e.length := (List.getElem?_eq_some_iff.mp he).1
  refine ⟨⟨by rw [List.length_set]; exact r.len, fun a o ha => ?_, fun j o ho => ?_, r.dis, fun j a ha => ⟨(r.own j a ha).1, ?_⟩⟩, Fr.upd hl ⟨i, hS⟩⟩
  · rw [upd_ne (fun z => by subst z; rw [hb] at ha; cases ha)]; exact r.ex a o ha
  · by_cases hj : j = i
    · subst hj
      rw [List.getElem?_set_self hlen] at ho
      cases ho
      exact ⟨_, hσ, l, xs', rfl, upd_same, hr, h4⟩
    · rw [List.getElem?_set_ne (Ne.symm hj)] at ho
      obtain ⟨v, a1, a2⟩ := r.rep j o ho
      refine ⟨v, a1, ?_⟩
      cases o with
      | fr d => exact a2
      | lst es =>
        obtain ⟨q, zs, b1, b2, b3, b4⟩ := a2
        refine ⟨q, zs, b1, ?_, b3, b4⟩
        rw [upd_ne (fun z => by subst z; exact hj (r.dis j i q ((b4 q).mpr rfl) hS))]
        exact b2
      | dct es =>
        obtain ⟨q, zs, b1, b2, bk, b3, b4⟩ := a2
        refine ⟨q, zs, b1, ?_, bk, b3, b4⟩
        rw [upd_ne (fun z => by subst z; exact hj (r.dis j i q ((b4 q).mpr rfl) hS))]
        exact b2
      | ins c ns es =>
        obtain ⟨q, C, dx, zs, b1, b2, bc, bk, b3, b4⟩ := a2
        refine ⟨q, C, dx, zs, b1, ?_, bc, bk, b3, b4⟩
        rw [upd_ne (fun z => by subst z; exact hj (r.dis j i q ((b4 q).mpr rfl) hS))]
        exact b2
      | exn a d x => exact a2
  · by_cases hp : a = l
    · exact ⟨_, by rw [hp]; exact upd_same⟩
    · obtain ⟨_, o, h⟩ := r.own j a ha
      exact ⟨o, by rw [upd_ne hp]; exact h⟩
def Mu1 (K : PySem.W.Frag) (r : V → List V → Hp → VK → Prop) (g : List D → D → Option (D × List D)) : Prop := ∀ (B H : Hp) (l : Addr) (xs : List V) (ds : List D) (y : V) (d res : D) (ds' : List D), Ex B H → H l = some (.lst xs) → RepL K B xs ds → Rep K B y d → g ds d = some (res, ds') →
  ∀ Q : VK, (∀ rv xs', RepL K B xs' ds' → Rep K B rv res → Q rv (L2.upd H l (.lst xs'))) → r (.ref l) [y] H Q
def Mu0 (K : PySem.W.Frag) (r : V → List V → Hp → VK → Prop) (g : List D → Option (D × List D)) : Prop := ∀ (B H : Hp) (l : Addr) (xs : List V) (ds : List D) (res : D) (ds' : List D), Ex B H → H l = some (.lst xs) → RepL K B xs ds → g ds = some (res, ds') →
  ∀ Q : VK, (∀ rv xs', RepL K B xs' ds' → Rep K B rv res → Q rv (L2.upd H l (.lst xs'))) → r (.ref l) [] H Q
theorem fz_fr {S1 : Nat → Addr → Prop} {B1 H1 B2 : Hp} (f1 : Fr B H (tot S) B1 H1 (fun a => T a ∨ tot S1 a)) (f2 : Fr B1 H1 T B2 H1 noS) : Fr B H (tot S) B2 H1 (tot S1) :=
  f1.trans ⟨f2.b, fun a o q _ => q, fun a z => .inl (.inr z), fun a u q => (f2.c a u q).elim .inl fun z => .inr (z.elim (fun z => .inl (.inl z)) .inr), fun a o q => ⟨o, q⟩⟩
theorem mut1_run {r : V → List V → Hp → VK → Prop} {g : List D → D → Option (D × List D)} {i : Nat} {f : M O} {Q : VK} (hs : Mu1 K r g) (h : tE K mg W (eMut1 g i f) σ H Q) :
    tVar i σ H fun x H1 => tyV K "list" x H1 ∧ tCons (tE K mg W f) tNil σ H1 fun vs H2 => r x vs H2 Q := by
  obtain ⟨B, e, S, rp, h⟩ := h
  unfold eMut1 at h
  cases q : e[i]? with
  | none => rw [q] at h; exact h.elim
  | some u =>
    cases u with
    | none => rw [q] at h; exact h.elim
    | some o =>
      rw [q] at h
      cases o with
      | fr d => exact h.elim
      | dct _ _ => exact h.elim
      | ins _ _ _ => exact h.elim
      | exn _ _ _ => exact h.elim
      | lst ds =>
        obtain ⟨v, hv, p, ys, e1, h2, h3, h4⟩ := rp.rep i _ q
        subst e1
        refine ⟨_, hv, .inl ⟨rfl, _, Evl.sq_of h2⟩, B, e, S, rp, (show Post (M.bind f _ e) _ _ from h).bind.imp (fun o e1 h v1 B1 H1 S1 T vl f1 => ?_) fun _ _ z => z⟩
        obtain ⟨B2, vl2, f2⟩ := vl.freeze
        have f3 := fz_fr f1 f2
        show r (.ref p) [v1] H1 Q
        cases q1 : e1[i]? with
        | none => rw [q1] at h; exact h.elim
        | some u1 =>
          cases u1 with
          | none => rw [q1] at h; exact h.elim
          | some o1 =>
            rw [q1] at h
            cases o1 with
            | fr d => exact h.elim
            | dct _ _ => exact h.elim
            | ins _ _ _ => exact h.elim
            | exn _ _ _ => exact h.elim
            | lst ds1 =>
              dsimp only at h
              cases qg : g ds1 o.d with
              | none => rw [qg] at h; exact h.elim
              | some rr =>
                obtain ⟨res, ds'⟩ := rr
                rw [qg] at h
                obtain ⟨v', hv', p', ys', e1', k2, k3, k4⟩ := vl2.rp.rep i _ q1
                rw [hv] at hv'; cases hv'
                cases e1'
                refine hs B2 H1 p ys' ds1 v1 _ res ds' vl2.rp.ex k2 k3 vl2.ro.1 qg Q fun rv xs' hx hrv => ?_
                obtain ⟨r4, f4⟩ := vl2.rp.mut q1 hv k2 hx
                exact (show ∀ v B' H' S' T, Vl K B' H' σ _ S' v (.fr res) T → Fr B H (tot S) B' H' (fun a => T a ∨ tot S' a) → Q v H' from h) rv B2 _ S1 noS (.fr r4 hrv) ((f3.trans f4).imp (fun _ z => z) fun a z => z.elim (fun z => z.elim) id)
theorem mut0_run {r : V → List V → Hp → VK → Prop} {g : List D → Option (D × List D)} {i : Nat} {Q : VK} (hs : Mu0 K r g) (h : tE K mg W (eMut0 g i) σ H Q) :
    tVar i σ H fun x H1 => tyV K "list" x H1 ∧ r x [] H1 Q := by
  obtain ⟨B, e, S, rp, h⟩ := h
  unfold eMut0 at h
  cases q : e[i]? with
  | none => rw [q] at h; exact h.elim
  | some u =>
    cases u with
    | none => rw [q] at h; exact h.elim
    | some o =>
      rw [q] at h
      cases o with
      | fr d => exact h.elim
      | dct _ _ => exact h.elim
      | ins _ _ _ => exact h.elim
      | exn _ _ _ => exact h.elim
      | lst ds =>
        obtain ⟨v, hv, p, ys, e1, h2, h3, h4⟩ := rp.rep i _ q
        subst e1
        refine ⟨_, hv, .inl ⟨rfl, _, Evl.sq_of h2⟩, ?_⟩
        dsimp only at h
        cases qg : g ds with
        | none => rw [qg] at h; exact h.elim
        | some rr =>
          obtain ⟨res, ds'⟩ := rr
          rw [qg] at h
          refine hs B H p ys ds res ds' rp.ex h2 h3 qg Q fun rv xs' hx hrv => ?_
          obtain ⟨r4, f4⟩ := rp.mut q hv h2 hx
          exact (show ∀ v B' H' S' T, Vl K B' H' σ _ S' v (.fr res) T → Fr B H (tot S) B' H' (fun a => T a ∨ tot S' a) → Q v H' from h) rv B _ S noS (.fr r4 hrv) (f4.imp (fun _ z => z) fun a z => z.elim (fun z => z.elim) id)
theorem u_app : Mu1 K rAppend gApp := fun B H l xs ds y d res ds' hx hl hr hy hg Q q => by
  unfold gApp at hg
  split at hg
  · rename_i hz
    cases hg
    exact ⟨l, xs, y, rfl, rfl, hl, by rw [hr.length]; exact hz, q .non _ (hr.append (.one hy)) .non⟩
  · cases hg
theorem u_pop0 : Mu1 K rPopAt gPop0 := fun B H l xs ds y d res ds' hx hl hr hy hg Q q => by
  unfold gPop0 at hg
  split at hg
  · rename_i i
    split at hg
    · rename_i hz
      obtain ⟨k, hk, hg⟩ := Option.bind_eq_some_iff.mp hg
      obtain ⟨z, hz2, e2⟩ := Option.map_eq_some_iff.mp hg
      cases e2; cases hy
      obtain ⟨v, hv, rv⟩ := hr.get hz2
      exact ⟨l, xs, i, k, v, rfl, rfl, hl, hz.1, hz.2, by rw [hr.length]; exact (ixN_seq hk).1, hv, q v _ (hr.erase k) rv⟩
    · cases hg
  · cases hg
theorem RepL.dropLast {xs : List V} {ds : List D} (h : RepL K B xs ds) : RepL K B xs.dropLast ds.dropLast := by
  rw [List.dropLast_eq_take, List.dropLast_eq_take, h.length]
  exact h.take _
theorem u_pop : Mu0 K rPop gPop := fun B H l xs ds res ds' hx hl hr hg Q q => by
  obtain ⟨z, hz2, e2⟩ := Option.map_eq_some_iff.mp hg
  cases e2
  obtain ⟨v, hv, rv⟩ := hr.get hz2
  exact ⟨l, xs, v, rfl, rfl, hl, by rw [hr.length]; exact hv, q v _ hr.dropLast rv⟩
theorem u_rev : Mu0 K rReverse gRev := fun B H l xs ds res ds' hx hl hr hg Q q => by
  cases hg
  exact ⟨l, xs, rfl, rfl, hl, q .non _ hr.reverse .non⟩
theorem u_ext : Mu1 K rExtend gExt := fun B H l xs ds y d res ds' hx hl hr hy hg Q q => by
  unfold gExt at hg
  split at hg
  · split at hg
    · rename_i hz
      cases hg
      cases hy with
      | lst h1 h2 => exact ⟨l, _, xs, _, rfl, rfl, hl, hx _ _ h1, by rw [hr.length, h2.length]; exact hz, q .non _ (hr.append h2) .non⟩
    · cases hg
  · cases hg
end
section
variable {X : Cx} {W : WX} {e k : Expr} {f g : M O} {i : Nat} {x name : Str} {id : String} {p apos pos : Pos} {r : V → List V → Hp → VK → Prop}
theorem d_mut1 {G : List D → D → Option (D × List D)} (hv : PE X (.Name x p) (tVar i)) (slot : Slot "list" name id) (hty : typeOf (.builtin id) = pure (.type "method_descriptor")) (hm : MtR X id r) (hs : Mu1 X.K r G) (he : PE X e (tE X.K X.mg W f))
    (hbase : attributeBase (.Name x p) name X.env (eval (.Name x p) X.env) = eval (.Name x p) X.env := by rfl)
    (hfew : ((backTo pos (starEach (e :: []) X.env)).all (fun x => !x.1) && (backToKw pos (keywordEach [] X.env)).all (fun x => x.1.isSome)
      && decide ((e :: []).length + ([] : List Keyword).length + (if ([] : List Keyword).isEmpty then 0 else 1) < 30)) = true := by rfl)
    (hline : (apos.endLine == pos.line) = true := by rfl) (hst : starEach (e :: []) X.env = (false, eval e X.env) :: starEach [] X.env := by rfl) (hpl : (backTo pos (starEach [] X.env)).any (·.1) = false := by rfl) :
    PE X (.Call (.Attribute (.Name x p) name apos) [e] [] pos) (tE X.K X.mg W (eMut1 G i f)) := pe_imp (pe_bm PySem.F.plainAttrs_list slot hty hm hv (pa_cons he pa_nil hst) hbase hfew hline hst hpl) fun σ H Q h => mut1_run hs h
theorem d_mut0 {G : List D → Option (D × List D)} (hv : PE X (.Name x p) (tVar i)) (slot : Slot "list" name id) (hty : typeOf (.builtin id) = pure (.type "method_descriptor")) (hm : MtR X id r) (hs : Mu0 X.K r G)
    (hbase : attributeBase (.Name x p) name X.env (eval (.Name x p) X.env) = eval (.Name x p) X.env := by rfl) (hline : (apos.endLine == pos.line) = true := by rfl) :
    PE X (.Call (.Attribute (.Name x p) name apos) [] [] pos) (tE X.K X.mg W (eMut0 G i)) := pe_imp (pe_bm0 PySem.F.plainAttrs_list slot hty hm hv hbase hline) fun σ H Q h => mut0_run hs h
theorem s_setIx {ks : List Nat} {p2 : Pos} (hv : PE X (.Name x p) (tVar i)) (hk : PE X k (tE X.K X.mg W f)) (he : PE X e (tE X.K X.mg W g))
    (ha : ∀ v, assign (.Subscript (.Name x p) k p2) X.env v = (do
      let ov ← holding [v] (eval (.Name x p) X.env)
      let iv ← holding [v, ov] (eval k X.env)
      standAt p2
      holding [v, ov, iv] (setItem ov iv v)
      release [v, ov, iv] []) := by intro _; rfl)
    (hs : swapsWithSole [.Subscript (.Name x p) k p2] e pos.line X.env = pure false := by rfl) (hw : swappedStores [.Subscript (.Name x p) k p2] e X.env = pure none := by rfl)
    (h1 : (assignEach [.Subscript (.Name x p) k p2] X.env).map (·.2) = [assign (.Subscript (.Name x p) k p2) X.env] := by rfl) :
    PS X (.Assign [.Subscript (.Name x p) k p2] e pos) (tS X.K X.mg W ks (sSetIx i f g)) := ps_imp (ps_asg he (pg_sub hv hk set_list ha) hs hw h1) fun D σ H h => by
  obtain ⟨B, e, S, r, h⟩ := h
  refine ⟨B, e, S, r, h.bind.imp (fun o e1 h v1 B1 H1 S1 T vl f1 => ?_) fun _ _ z => ExS.toE z⟩
  obtain ⟨B2, vl2, f2⟩ := vl.freeze
  have f3 := fz_fr f1 f2
  cases q : e1[i]? with
  | none => rw [q] at h; exact h.elim
  | some u =>
    cases u with
    | none => rw [q] at h; exact h.elim
    | some o1 =>
      rw [q] at h
      cases o1 with
      | fr d => exact h.elim
      | dct _ _ => exact h.elim
      | ins _ _ _ => exact h.elim
      | exn _ _ _ => exact h.elim
      | lst ds0 =>
        obtain ⟨v, hv, l, ys, ev, _, _, _⟩ := vl2.rp.rep i _ q
        subst ev
        refine ⟨_, hv, B2, e1, S1, vl2.rp, (show Post (M.bind f _ e1) _ _ from h).bind.imp (fun ko e2 h v2 B3 H3 S3 T3 vl3 f4 => ?_) fun x e2 z => ExS.toE (ExS.step z (Kp.refl _ _) f3)⟩
        cases q1 : e2[i]? with
        | none => rw [q1] at h; exact h.elim
        | some u1 =>
          cases u1 with
          | none => rw [q1] at h; exact h.elim
          | some o1 =>
            rw [q1] at h
            cases o1 with
            | fr d => exact h.elim
            | dct _ _ => exact h.elim
            | ins _ _ _ => exact h.elim
            | exn _ _ _ => exact h.elim
            | lst ds1 =>
              dsimp only at h
              split at h
              · rename_i j
                split at h
                · rename_i n hn
                  obtain ⟨v', hv', p', ys', e1', k2, k3, k4⟩ := vl3.rp.rep i _ q1
                  rw [hv] at hv'; cases hv'
                  cases e1'
                  have hj := vl3.ro.1
                  cases hj
                  obtain ⟨r5, f5⟩ := vl3.rp.mut q1 hv k2 (k3.set n (vl2.ro.1.mono f4.b))
                  exact ⟨_, ys', j, n, rfl, rfl, k2, by rw [k3.length]; exact hn, (show Nd X.K D ks B H S σ .next _ from h) σ B3 _ S3 r5 (Kp.refl _ _) ((f3.trans f4.weak).trans f5)⟩
                · exact h.elim
              · exact h.elim
end

/-! ## 20. The law -/
def spLaw (K : PySem.W.Frag) : Sp := fun vs H Q _ => ∃ (a : Addr) (ns : List Int), vs = [.ref a] ∧ SqL K H a (ns.map V.int) ∧ ns.length ≤ 63 ∧ ∀ H', Q (.bl true) H'
theorem law_sp {P : Program} {w : World} {K : PySem.W.Frag} {mg : Str → Option Value} {base : Heap} {CX : CXT} {k : Nat} {f : Addr} {fd : FuncData} {ps : List Str} {F : Fn} (h : FnOk P w K mg base CX k f fd ps (spD K mg 1 F))
    (hF : ∀ ns : List Int, ns.length ≤ 63 → ∃ os, F [.fr (.scr ns)] = some (.ok (bO true) os)) : FnOk P w K mg base CX k f fd ps (spLaw K) := h.imp fun vs H Q E ⟨a, ns, ev, hs, hl, q⟩ => by
  subst ev
  obtain ⟨os, e⟩ := hF ns hl
  refine ⟨rfl, H, [.fr (.scr ns)], fun _ => noS, ⟨rfl, Ex.refl H, fun i o ho => ?_, fun _ _ _ z => z.elim, fun _ _ z => z.elim⟩, ?_⟩
  · cases i with
    | zero =>
      have ho' : some (some (O.fr (D.scr ns))) = some (some o) := ho
      cases ho'
      exact ⟨_, rfl, .scr hs, fun _ z => z⟩
    | succ i => simp at ho
  · rw [e]
    intro v B' H' S' T _ vl _
    have hr := vl.ro.1
    cases hr
    exact q H'
theorem law_cx {P : Program} {w : World} (H : Hp) (s : Shared) (e : Value) (s' : Shared) (h : L2.CX P w [] H s (fun _ _ _ => False) e s') : False := by
  obtain ⟨_, _, _, _, _, _, _, _, _, _, _, _, z⟩ := h
  exact z
end Dn

namespace Dn
open PySem L2
open Evl (Ex)

/-! ## 21. Further forms -/
theorem _root_.L2.Room.units5 {k : Nat} {A : Around} (r : Room k A) : A.units + 65 < cLine := by have := r.un; omega
section
variable {X : Cx} {W : WX}
theorem d_g {x : Str} {pos : Pos} {v : V} {d : D} (hg : Gl X x) (h : ∃ u, X.mg x = some u ∧ RelV v u) (hr : ∀ B, Rep X.K B v d) (hdb : (x == ("__debug__" : Str)) = false := by decide) : PE X (.Name x pos) (tE X.K X.mg W (eC d)) := by
  obtain ⟨u, h1, h2⟩ := h
  exact d_c (pe_glob hg h1 h2 hdb) hr
theorem d_call0 {x : Str} {p pos : Pos} {k j n : Nat} {F : Fn} {dv : List D} (C : Cl X.prog X.w X.K X.mg X.base k x n F dv) (hr : Room j X.A) (tk : Takes X W) (hk : k ≤ j := by decide) (hg : Gl X x := by rfl) (hn : n = ([] : List P).length + dv.length := by rfl)
    (hdb : (x == ("__debug__" : Str)) = false := by decide) : PE X (.Call (.Name x p) [] [] pos) (tE X.K X.mg W (eCall F [] dv)) := by
  obtain ⟨f, fd, pn, ds, dvs, h0, h1, h2, h3, h4, h5, h6⟩ := C.ex
  have hl : dvs.length = dv.length := (h6 fun _ => none).length
  refine ⟨fun pins s σ H Q I h => ?_⟩
  refine wpAny_Call_Name_kw (ld_glob I hg h2 ?_ hdb)
  exact PySem.W.callWith_K0 I.kIn h3 (run_fnSD (us := []) (E := WE W) h1 (hr.mono hk) h4 h5 (passAt tk σ) I .nil (call_core (W := W) hl (h0.trans hn) (by decide) h6 h))
end
theorem cl_mk {P : Program} {w : World} {K : PySem.W.Frag} {mg : Str → Option Value} {base : Heap} {k n : Nat} {x : Str} {F : Fn} {f : Addr} {fd : FuncData} {ps : List Str} (h : FnOk P w K mg base (L2.CX P w) k f fd ps (spD K mg n F)) (hm : mg x = some (.ref f)) (hk : PySem.W.keepIn K (.ref f) = true) (hb : Binds K fd ps []) (hn : ps.length = n := by rfl) : Cl P w K mg base k x n F [] :=
  ⟨f, fd, ps, [], [], hn, by rw [hn]; exact h, hm, hk, hb, .nil, fun _ => .nil⟩

/-! ### a op1 b op2 c -/
def eChain (g g2 : List D → Option O) (fa fb fc : M O) : M O := fa.bind fun oa => fb.bind fun ob e => match g [oa.d, ob.d] with
  | some (.fr (.bl true)) => (fc.bind fun oc e => (g2 [ob.d, oc.d]).map fun o => .ok o e) e
  | some (.fr (.bl false)) => some (.ok (bO false) e)
  | _ => none
section
variable {K : PySem.W.Frag} {mg : Str → Option Value} {W : WX} {σ : St} {H : Hp}
theorem chain_run {r r2 : R2} {g g2 : List D → Option O} {fa fb fc : M O} {Q : VK} (hs : Snd2 K r g) (hs2 : Snd2 K r2 g2) (h : tE K mg W (eChain g g2 fa fb fc) σ H Q) : tChain r r2 (tE K mg W fa) (tE K mg W fb) (tE K mg W fc) σ H Q := by
  obtain ⟨B, e, S, rp, h⟩ := h
  refine ⟨B, e, S, rp, h.bind.imp (fun oa e1 h va B1 H1 S1 T1 vl1 f1 => ?_) fun _ _ z => z⟩
  have f1' := f1.weak (S' := S1)
  refine ⟨B1, e1, S1, vl1.rp, h.bind.imp (fun ob e2 h vb B2 H2 S2 T2 vl2 f2 => ?_) fun _ _ z => z.step f1'⟩
  have f2' := f2.weak (S' := S2)
  have f12 := f1'.trans f2'
  obtain ⟨ro1, _, _⟩ := vl1.ro.frame vl1.own vl1.dj f2
  have go : ∀ o, g [oa.d, ob.d] = some o → Post (match some o with
      | some (.fr (.bl true)) => (fc.bind fun oc e => (g2 [ob.d, oc.d]).map fun o => .ok o e) e2
      | some (.fr (.bl false)) => some (.ok (bO false) e2)
      | _ => none) (fun o e' => ∀ v B' H' S' T, Vl K B' H' σ e' S' v o T → Fr B H (tot S) B' H' (fun a => T a ∨ tot S' a) → Q v H') (fun x e' => ExE K mg W B H S σ x e') →
      r va vb H2 fun z H3 => ∃ k, z = .bl k ∧ (if k = true then tE K mg W fc σ H3 fun w' H4 => r2 vb w' H4 Q else Q (.bl false) H3) := fun o ho h => by
    refine hs B2 H2 va vb _ _ o vl2.rp.ex (ro1.rd vl2.rp.ex) (vl2.ro.rd vl2.rp.ex) ho _ fun v B3 H3 T gr ro hn ow => ?_
    cases o with
    | lst _ => exact h.elim
    | dct _ _ => exact h.elim
    | ins _ _ _ => exact h.elim
    | exn _ _ _ => exact h.elim
    | fr d =>
      cases d with
      | bl b =>
        have rv := ro.1
        cases rv
        have r3 := vl2.rp.grow gr
        have f3 : Fr B H (tot S) B3 H3 (tot S2) := f12.trans (gr.fr _)
        cases b with
        | false => exact ⟨false, rfl, iteF ((show ∀ v B' H' S' T, Vl K B' H' σ e2 S' v (bO false) T → Fr B H (tot S) B' H' (fun a => T a ∨ tot S' a) → Q v H' from h) _ B3 H3 S2 noS (.fr r3 (.bl _)) (f3.imp (fun _ z => z) fun a z => z.elim (fun z => z.elim) id))⟩
        | true =>
          refine ⟨true, rfl, iteT ⟨B3, e2, S2, r3, (show Post (M.bind fc _ e2) _ _ from h).bind.imp (fun oc e3 h vc B4 H4 S4 T4 vl4 f4 => ?_) fun _ _ z => z.step f3⟩⟩
          obtain ⟨o2, ho2, h⟩ := ap_end h
          obtain ⟨ro2, _, _⟩ := ((vl2.ro.grow gr)).frame (vl2.own.grow gr) vl2.dj f4
          exact hs2 B4 H4 vb vc _ _ o2 vl4.rp.ex (ro2.rd vl4.rp.ex) (vl4.ro.rd vl4.rp.ex) ho2 Q (vl4.rp.giv fun v B5 H5 S5 T5 vl5 f5 => h v B5 H5 S5 T5 vl5 ((f3.trans f4.weak).trans f5))
      | _ => exact h.elim
  cases q : g [oa.d, ob.d] with
  | none => simp only [q] at h; exact h.elim
  | some o => simp only [q] at h; exact go o q h
end
section
variable {X : Cx} {W : WX} {a b c e : Expr} {fa fb fc f : M O} {op op2 : CmpOp} {r r2 : R2} {g g2 : List D → Option O} {pos : Pos} {p : P}
theorem d_chain (ho : OpR X (compareOp op) r) (hs : Snd2 X.K r g) (ho2 : OpR X (compareOp op2) r2) (hs2 : Snd2 X.K r2 g2) (ha : PE X a (tE X.K X.mg W fa)) (hb : PE X b (tE X.K X.mg W fb)) (hc : PE X c (tE X.K X.mg W fc))
    (hm : lastMarks [op, op2] [b, c] = false := by with_unfolding_all rfl) : PE X (.Compare a [op, op2] [b, c] pos) (tE X.K X.mg W (eChain g g2 fa fb fc)) := pe_imp (pe_chain ho ho2 ha hb hc hm) fun _ _ _ h => chain_run hs hs2 h
theorem c_chain (ho : OpR X (compareOp op) r) (hs : Snd2 X.K r g) (ho2 : OpR X (compareOp op2) r2) (hs2 : Snd2 X.K r2 g2) (ha : PE X a (tE X.K X.mg W fa)) (hb : PE X b (tE X.K X.mg W fb)) (hc : PE X c (tE X.K X.mg W fc))
    (hm : lastMarks [op, op2] [b, c] = false := by with_unfolding_all rfl) : PT X (.Compare a [op, op2] [b, c] pos) (tT X.K X.mg W (tst (eChain g g2 fa fb fc))) := pt_imp (pt_chain ho ho2 ha hb hc hm) fun σ H Q h => by
  obtain ⟨B, e, S, r, h⟩ := h
  refine chain_run hs hs2 (mg := X.mg) (W := W) ⟨B, e, S, r, h.bind.imp (fun o e' h v B' H' S' T vl f => ?_) fun _ _ z => z⟩
  cases o with
  | lst ds => exact h.elim
  | dct _ _ => exact h.elim
  | ins _ _ _ => exact h.elim
  | exn _ _ _ => exact h.elim
  | fr d =>
    cases d with
    | bl b =>
      have hr := vl.ro.1
      cases hr
      exact ⟨b, rfl, h B' H' S' vl.rp (f.imp (fun _ z => z) fun _ z => .inr z)⟩
    | _ => exact h.elim
/-! ### truth -/
def truD : D → Option Bool
  | .non => some false
  | .bl b => some b
  | .int i => some (i != 0)
  | .str z => if z.length ≤ sizeLine then some ((z.length : Int) != 0) else none
  | .lst ds => some (!ds.isEmpty)
  | .tup ds => some (!ds.isEmpty)
  | .scr ns => some (!ns.isEmpty)
  | _ => none
def tru (p : P) : M Bool := (ops [p]).bind fun ds e => match ds with
  | [d] => (truD d).map fun b => .ok b e
  | _ => none
theorem repL_empty {K : PySem.W.Frag} {B : Hp} {xs : List V} {ds : List D} (h : RepL K B xs ds) : (!ds.isEmpty) = !xs.isEmpty := by cases h <;> rfl
theorem c_tru (h : PE X e (tP X.K X.mg W p)) (he : ∀ whole, isTrue e X.env whole = (do let v ← whole; standAt e.pos; holding [v] (truthy v)) := by intro _; rfl) : PT X e (tT X.K X.mg W (tru p)) := pt_imp (pt_truth h he) fun σ H Q h => by
  obtain ⟨B, e, S, rp, h⟩ := h
  have key := ops_run (K := X.K) (mg := X.mg) (W := W) (σ := σ) [p] (fun vs H' => ∀ x, vs = [x] → ∃ k, TruV X.K x H' k ∧ Q k H') rp (h.bind.imp (fun ds e' h vs B' H' S' r' rl f x ev => ?_) fun _ _ z => z)
  · have key' : tP X.K X.mg W p σ H fun x H1 => ∀ x', [x] = [x'] → ∃ k, TruV X.K x' H1 k ∧ Q k H1 := key
    exact tP_mono _ _ _ _ _ (fun x H1 t => t x rfl) key'
  · subst ev
    cases rl with
    | cons h1 rl =>
      cases rl
      rename_i d
      have h0 : Post ((truD d).map fun b => Ro.ok b e') (fun b e' => ∀ B' H' S', Rp X.K B' H' σ e' S' → Fr B H (tot S) B' H' (tot S') → Q b H') (fun x e' => ExE X.K X.mg W B H S σ x e') := h
      cases q : truD d with
      | none => rw [q] at h0; exact h0.elim
      | some b =>
        rw [q] at h0
        have h2 : ∀ B' H' S', Rp X.K B' H' σ e' S' → Fr B H (tot S) B' H' (tot S') → Q b H' := h0
        refine ⟨b, ?_, h2 B' H' S' r' f⟩
        cases d with
        | non => cases h1; cases q; rfl
        | bl b => cases h1; cases q; rfl
        | int b => cases h1; cases q; rfl
        | str z =>
          cases h1
          have q' : (if z.length ≤ sizeLine then some ((z.length : Int) != 0) else none) = some b := q
          by_cases hz : z.length ≤ sizeLine
          · rw [if_pos hz] at q'; cases q'; exact ⟨hz, rfl⟩
          · rw [if_neg hz] at q'; cases q'
        | opq => cases q
        | dct _ _ => cases q
        | ins _ _ _ => cases q
        | lst ds => obtain ⟨a, xs, rfl, k1, k2⟩ := h1; cases q; exact .inl ⟨xs, Evl.sq_of k1, repL_empty k2⟩
        | tup ds => cases h1 with
          | tup k1 k2 => cases q; exact .inr (.inl ⟨_, Evl.ex_t r'.ex k1, repL_empty k2⟩)
        | scr ns => cases h1 with
          | scr k1 => cases q; exact .inl ⟨_, Evl.ex_l r'.ex k1, by cases ns <;> rfl⟩
/-! ### x op= e, a, b = e -/
def sAug (g : List D → Option O) (i : Nat) (f : M O) : M Fl := fun e => match e[i]? with
  | some (some (.fr a)) => (f.bind fun o e' => match g [a, o.d] with
    | some (.fr r) => some (.ok .next (e'.set i (some (.fr r))))
    | _ => none) e
  | _ => none
def gAddI : List D → Option O
  | [.int i, .int j] => some (iO (i + j))
  | _ => none
theorem n_addI {K : PySem.W.Frag} : Snd2 K (ipI fun i j => i + j) gAddI := fun B H x y a b o hx ha hb hg Q q => by
  cases a <;> cases b <;> simp only [gAddI] at hg <;> (try cases hg)
  cases ha; cases hb
  exact ⟨_, _, rfl, rfl, q.fr hx (.int _)⟩
theorem n_subI {K : PySem.W.Frag} : Snd2 K (ipI fun i j => i - j) gSub := fun B H x y a b o hx ha hb hg Q q => by
  cases a <;> cases b <;> simp only [gSub] at hg <;> (try cases hg)
  cases ha; cases hb
  exact ⟨_, _, rfl, rfl, q.fr hx (.int _)⟩
theorem s_aug {ks : List Nat} {i : Nat} {x : Str} {op : Operator} {ti : TIp} {pos' : Pos} (hN : X.N.Nodup) (hi : X.N[i]? = some x) (hx : Loc X.env.scope x) (he : PE X e (tE X.K X.mg W f)) (ho : PIp X op ti) (hs : Snd2 X.K ti g) (hk : i ∉ ks := by decide) (hf : X.fn x = true ∨ X.env.scope.names.lookup x = some .local := by first | exact .inl rfl | exact .inr rfl | assumption) :
    PS X (.AugAssign (.Name x pos') op e pos) (tS X.K X.mg W ks (sAug g i f)) := ps_imp (ps_aug hN hi hx he ho hf) fun D σ H h => by
  obtain ⟨B, e, S, r, h⟩ := h
  unfold sAug at h
  cases q : e[i]? with
  | none => rw [q] at h; exact h.elim
  | some u =>
    cases u with
    | none => rw [q] at h; exact h.elim
    | some o =>
      rw [q] at h
      cases o with
      | lst _ => exact h.elim
      | dct _ _ => exact h.elim
      | ins _ _ _ => exact h.elim
      | exn _ _ _ => exact h.elim
      | fr a =>
        obtain ⟨v, hv, ro⟩ := r.rep i _ q
        refine ⟨v, hv, B, e, S, r, (show Post (M.bind f _ e) _ _ from h).bind.imp (fun o e1 h y B1 H1 S1 T vl f1 => ?_) fun _ _ z => ExS.toE z⟩
        have f1' := f1.weak (S' := S1)
        cases qg : g [a, o.d] with
        | none => rw [qg] at h; exact h.elim
        | some res =>
          rw [qg] at h
          cases res with
          | lst _ => exact h.elim
          | dct _ _ => exact h.elim
          | ins _ _ _ => exact h.elim
          | exn _ _ _ => exact h.elim
          | fr d =>
            refine hs B1 H1 v y a _ _ vl.rp.ex ((ro.1.mono f1.b).rd vl.rp.ex) (vl.ro.rd vl.rp.ex) qg _ fun z B2 H2 T2 gr roz _ _ => ?_
            have vl2 : Vl X.K B2 H2 σ e1 S1 z (.fr d) noS := .fr (vl.rp.grow gr) roz.1
            exact (show Nd X.K D ks B H S σ .next _ from h) _ B2 H2 _ (vl2.set i) (Kp.set hk) ((f1'.trans (gr.fr _)).imp (fun _ z => z) fun a z => (tot_set z).elim (fun z => z.elim) id)
def sSetT (tg : Tg) (f : M O) : M Fl := f.bind fun o e => (tg.go o.d e).map fun e' => .ok .next e'
theorem s_setT {ks : List Nat} {t : Expr} {tg : Tg} (he : PE X e (tE X.K X.mg W f)) (hg : PG X t (tTg X.K tg)) (hk : ∀ i ∈ tg.ix, i ∉ ks) (hs : swapsWithSole [t] e pos.line X.env = pure false := by rfl) (hw : swappedStores [t] e X.env = pure none := by rfl)
    (h1 : (assignEach [t] X.env).map (·.2) = [assign t X.env] := by rfl) : PS X (.Assign [t] e pos) (tS X.K X.mg W ks (sSetT tg f)) := ps_imp (ps_asg he hg hs hw h1) fun D σ H h => by
  obtain ⟨B, e, S, r, h⟩ := h
  refine ⟨B, e, S, r, h.bind.imp (fun o e1 h v B1 H1 S1 T vl f1 => ?_) fun _ _ z => ExS.toE z⟩
  obtain ⟨B2, vl2, f2⟩ := vl.freeze
  have f3 := fz_fr f1 f2
  cases q : tg.go o.d e1 with
  | none => rw [q] at h; exact h.elim
  | some e2 =>
    rw [q] at h
    exact tg_run (ks := ks) vl2.rp vl2.ro.1 q hk fun σ' S' r' k' t' _ => (show Nd X.K D ks B H S σ .next e2 from h) σ' B2 H1 S' r' k' (f3.imp (fun _ z => z) t')
end
end Dn

namespace Dn
open PySem L2
theorem bt_len : bootBuiltins "len" = some (.builtin "len") := by decide +kernel
theorem bt_int : bootBuiltins "int" = some (.type "int") := by decide +kernel
theorem bt_abs : bootBuiltins "abs" = some (.builtin "abs") := by decide +kernel
theorem bt_ord : bootBuiltins "ord" = some (.builtin "ord") := by decide +kernel
theorem bt_list : bootBuiltins "list" = some (.type "list") := by decide +kernel
theorem bt_tuple : bootBuiltins "tuple" = some (.type "tuple") := by decide +kernel
theorem bt_all : bootBuiltins "all" = some (.builtin "all") := by decide +kernel
theorem bt_any : bootBuiltins "any" = some (.builtin "any") := by decide +kernel
theorem bt_sum : bootBuiltins "sum" = some (.builtin "sum") := by decide +kernel
theorem bt_str : bootBuiltins "str" = some (.type "str") := by decide +kernel
theorem bt_bool : bootBuiltins "bool" = some (.type "bool") := by decide +kernel
theorem bt_isinstance : bootBuiltins "isinstance" = some (.builtin "isinstance") := by decide +kernel
theorem bt_repr : bootBuiltins "repr" = some (.builtin "repr") := by decide +kernel
theorem bt_max : bootBuiltins "max" = some (.builtin "max") := by decide +kernel
theorem bt_min : bootBuiltins "min" = some (.builtin "min") := by decide +kernel
theorem bt_sorted : bootBuiltins "sorted" = some (.builtin "sorted") := by decide +kernel
end Dn

namespace Dn
open PySem L2
open PyProof.Rows (envOfC)
section
variable {P : Program} {w : World} {K : PySem.W.Frag} {mg : Str → Option Value} {base : Heap}
theorem fn_dnX {x qual : Str} {st : Stmt} {f : Addr} {fd : FuncData} {N ps : List Str} {k : Nat} {ks : List Nat} {g : M Fl} (F : FunX K x qual st f fd) (Sc : FnScope N ps (defScope st)) (n m : Nat) (hn : ps.length = n) (hm : N.length = m)
    (hb : ∀ (cdv : Value) (A : Around) (outer : List PySem.Env) (s : Shared) (H : Hp) (E : XK), Room k (A.deeper (envOfC qual (defScope st) s.heap.objs.size f cdv)) →
      Takes (cxOf (L2.CX P w) P w K mg base N qual (defScope st) f cdv A outer s H E) (fun cls d _ H => E cls d H) →
      PassesOwn (model P w) (A.deeper (envOfC qual (defScope st) s.heap.objs.size f cdv)) (envOfC qual (defScope st) s.heap.objs.size f cdv) (cxOf (L2.CX P w) P w K mg base N qual (defScope st) f cdv A outer s H E).xe →
      PSs (cxOf (L2.CX P w) P w K mg base N qual (defScope st) f cdv A outer s H E) (defBody st) (tS K mg (fun cls d _ H => E cls d H) ks g)) :
    FnOk P w K mg base (L2.CX P w) (k + 1) f fd ps (spD K mg n (mkF m ks g)) := by
  subst hn
  subst hm
  exact fn_den F Sc hb
theorem fn_dn {x qual : Str} {st : Stmt} {f : Addr} {fd : FuncData} {N ps : List Str} {k : Nat} {ks : List Nat} {g : M Fl} (F : Fun K x qual st f fd) (Sc : FnScope N ps (defScope st)) (n m : Nat) (hn : ps.length = n) (hm : N.length = m)
    (hb : ∀ (cdv : Value) (A : Around) (outer : List PySem.Env) (s : Shared) (H : Hp) (E : XK), Room k (A.deeper (envOfC qual (defScope st) s.heap.objs.size f cdv)) →
      Takes (cxOf (L2.CX P w) P w K mg base N qual (defScope st) f cdv A outer s H E) (fun cls d _ H => E cls d H) →
      PassesOwn (model P w) (A.deeper (envOfC qual (defScope st) s.heap.objs.size f cdv)) (envOfC qual (defScope st) s.heap.objs.size f cdv) (cxOf (L2.CX P w) P w K mg base N qual (defScope st) f cdv A outer s H E).xe →
      PSs (cxOf (L2.CX P w) P w K mg base N qual (defScope st) f cdv A outer s H E) (defBody st) (tS K mg (fun cls d _ H => E cls d H) ks g)) :
    FnOk P w K mg base (L2.CX P w) (k + 1) f fd ps (spD K mg n (mkF m ks g)) := by
  exact fn_dnX (fun_x F) Sc n m hn hm hb
end
end Dn

namespace Dn
open PySem L2

/-! ## 22. Reckoning with what is computed -/
theorem sl_val : sizeLine = 16777216 := sizeLine_eq
/-- a for: I between two turns; it may be left by a return (R) or a break (Bk) -/
theorem forL_gen {tg : Tg} {body : M Fl} (I : Nat → Sl → Prop) (R : O → Sl → Prop) (Bk : Sl → Prop) : ∀ (ds : List D) (e : Sl), I 0 e →
    (∀ (i : Nat) (d : D) (e : Sl), ds[i]? = some d → I i e → ∃ e1, tg.go d e = some e1 ∧ ((∃ e2, (body e1 = some (.ok .next e2) ∨ body e1 = some (.ok .cnt e2)) ∧ I (i + 1) e2) ∨ (∃ o e2, body e1 = some (.ok (.ret o) e2) ∧ R o e2) ∨ (∃ e2, body e1 = some (.ok .brk e2) ∧ Bk e2))) →
    (∃ e', forL tg body ds e = some (.ok .next e') ∧ (I ds.length e' ∨ Bk e')) ∨ (∃ o e', forL tg body ds e = some (.ok (.ret o) e') ∧ R o e')
  | [], e, h0, _ => .inl ⟨e, rfl, .inl h0⟩
  | d :: ds, e, h0, hs => by
    obtain ⟨e1, h1, h2⟩ := hs 0 d e rfl h0
    have ih := fun e2 (h : I 1 e2) => forL_gen (fun i => I (i + 1)) R Bk ds e2 h fun i d' e' hd hi => hs (i + 1) d' e' hd hi
    rcases h2 with ⟨e2, hb, hi⟩ | ⟨o, e2, hb, hr⟩ | ⟨e2, hb, hk⟩
    · have q : forL tg body (d :: ds) e = forL tg body ds e2 := by
        rcases hb with hb | hb <;> (simp only [forL, h1, hb])
      rw [q]
      exact ih e2 hi
    · exact .inr ⟨o, e2, by simp only [forL, h1, hb], hr⟩
    · exact .inl ⟨e2, by simp only [forL, h1, hb], .inr hk⟩
/-- a for that goes through -/
theorem forL_all {tg : Tg} {body : M Fl} (I : Nat → Sl → Prop) (ds : List D) (e : Sl) (h0 : I 0 e)
    (hs : ∀ (i : Nat) (d : D) (e : Sl), ds[i]? = some d → I i e → ∃ e1 e2, tg.go d e = some e1 ∧ body e1 = some (.ok .next e2) ∧ I (i + 1) e2) : ∃ e', forL tg body ds e = some (.ok .next e') ∧ I ds.length e' := by
  rcases forL_gen I (fun _ _ => False) (fun _ => False) ds e h0 fun i d e hd hi => by
    obtain ⟨e1, e2, h1, h2, h3⟩ := hs i d e hd hi
    exact ⟨e1, h1, .inl ⟨e2, .inl h2, h3⟩⟩ with ⟨e', h1, h2⟩ | ⟨o, e', h1, h2⟩
  · exact ⟨e', h1, h2.elim id False.elim⟩
  · exact h2.elim
/-- a while, by a measure -/
theorem whL_gen {c : M Bool} {body : M Fl} (I : Nat → Sl → Prop) (Z : Sl → Prop) (R : O → Sl → Prop) (hs : ∀ (m : Nat) (e : Sl), I m e → (∃ e1, c e = some (.ok false e1) ∧ Z e1) ∨ (∃ e1, c e = some (.ok true e1) ∧ ((∃ m' e2, m' < m ∧ (body e1 = some (.ok .next e2) ∨ body e1 = some (.ok .cnt e2)) ∧ I m' e2) ∨ (∃ o e2, body e1 = some (.ok (.ret o) e2) ∧ R o e2) ∨ (∃ e2, body e1 = some (.ok .brk e2) ∧ Z e2)))) :
    ∀ (n m : Nat) (e : Sl), m < n → I m e → (∃ e', whL c body n e = some (.ok .next e') ∧ Z e') ∨ (∃ o e', whL c body n e = some (.ok (.ret o) e') ∧ R o e')
  | 0, _, _, h, _ => absurd h (Nat.not_lt_zero _)
  | n + 1, m, e, hn, hi => by
    rcases hs m e hi with ⟨e1, h1, h2⟩ | ⟨e1, h1, h2⟩
    · exact .inl ⟨e1, by simp [whL, M.bind, h1, M.pure], h2⟩
    · rcases h2 with ⟨m', e2, hm, hb, hi'⟩ | ⟨o, e2, hb, hr⟩ | ⟨e2, hb, hz⟩
      · have q : whL c body (n + 1) e = whL c body n e2 := by
          rcases hb with hb | hb <;> simp [whL, M.bind, h1, hb]
        rw [q]
        exact whL_gen I Z R hs n m' e2 (by omega) hi'
      · exact .inr ⟨o, e2, by simp [whL, M.bind, h1, hb], hr⟩
      · exact .inl ⟨e2, by simp [whL, M.bind, h1, hb], hz⟩
/-- a comprehension without a test: P i d x of each item and what is made of it -/
theorem lcL_gen {own : List Nat} {tg : Tg} {t : M Bool} {f : M O} (I : Nat → Sl → Prop) (Pr : Nat → D → D → Prop) : ∀ (ds acc : List D) (e : Sl), acc.length + ds.length < 10000000 → I 0 e →
    (∀ (i : Nat) (d : D) (e : Sl), ds[i]? = some d → I i e → ∃ e1 e2 o e3, tg.go d e = some e1 ∧ t e1 = some (.ok true e2) ∧ f e2 = some (.ok o e3) ∧ Pr i d o.d ∧ I (i + 1) (wipeE e3 own)) →
    ∃ xs e', lcL own tg t f ds acc e = some (acc ++ xs, e') ∧ xs.length = ds.length ∧ (∀ (i : Nat) (d : D), ds[i]? = some d → ∃ x, xs[i]? = some x ∧ Pr i d x) ∧ I ds.length e'
  | [], acc, e, _, h0, _ => ⟨[], e, by simp [lcL], rfl, fun i d h => by simp at h, h0⟩
  | d :: ds, acc, e, hl, h0, hs => by
    obtain ⟨e1, e2, o, e3, h1, h2, h3, h4, h5⟩ := hs 0 d e rfl h0
    have hz : acc.length < sizeLine := by rw [sizeLine_eq]; rw [List.length_cons] at hl; omega
    obtain ⟨xs, e', q1, q2, q3, q4⟩ := lcL_gen (fun i => I (i + 1)) (fun i => Pr (i + 1)) ds (acc ++ [o.d]) (wipeE e3 own) (by rw [List.length_append]; simp only [List.length_cons, List.length_nil] at *; omega) h5 fun i d' e' hd hi => hs (i + 1) d' e' hd hi
    refine ⟨o.d :: xs, e', ?_, by rw [List.length_cons, List.length_cons, q2], fun i d' h => ?_, q4⟩
    · simp only [lcL, h1, h2, h3, hz, if_true, q1, List.append_assoc, List.singleton_append]
    · cases i with
      | zero =>
        have h' : some d = some d' := h
        cases h'
        exact ⟨_, rfl, h4⟩
      | succ i =>
        obtain ⟨x, a, b⟩ := q3 i d' h
        exact ⟨x, a, b⟩
/-- a comprehension whose element is a function of the item, and whose block leaves the slots as they were -/
theorem lcL_map {own : List Nat} {tg : Tg} {t : M Bool} {f : M O} {e : Sl} (h : D → D) (ds : List D) (hl : ds.length < 10000000)
    (hs : ∀ d ∈ ds, ∃ e1 e2 o e3, tg.go d e = some e1 ∧ t e1 = some (.ok true e2) ∧ f e2 = some (.ok o e3) ∧ o.d = h d ∧ wipeE e3 own = e) : lcL own tg t f ds [] e = some (ds.map h, e) := by
  obtain ⟨xs, e', q1, q2, q3, q4⟩ := lcL_gen (own := own) (tg := tg) (t := t) (f := f) (fun _ e' => e' = e) (fun _ d x => x = h d) ds [] e (by simpa using hl) rfl fun i d e' hd he => by
    subst he
    obtain ⟨e1, e2, o, e3, a, b, c, d', f'⟩ := hs d (List.mem_of_getElem? hd)
    exact ⟨e1, e2, o, e3, a, b, c, d', f'⟩
  rw [q1, q4, List.nil_append]
  congr 2
  apply List.ext_getElem?
  intro i
  rw [List.getElem?_map]
  cases hd : ds[i]? with
  | none => rw [List.getElem?_eq_none (by rw [q2]; exact List.getElem?_eq_none_iff.mp hd)]; rfl
  | some d =>
    obtain ⟨x, hx, e⟩ := q3 i d hd
    rw [hx, e]; rfl
theorem rngD_get {lo hi : Int} {i : Nat} {d : D} (h : (rngD lo hi)[i]? = some d) : d = .int (lo + i) ∧ (i : Int) < hi - lo := by
  unfold rngD at h
  have hl := (List.getElem?_eq_some_iff.mp h).1
  rw [List.length_map, List.length_range] at hl
  rw [List.getElem?_map, List.getElem?_range hl] at h
  cases h
  exact ⟨rfl, by omega⟩
theorem rngD_len {lo hi : Int} : (rngD lo hi).length = (hi - lo).toNat := by unfold rngD; rw [List.length_map, List.length_range]
theorem fmod_pos {a b : Int} (h : 0 < b) : a.fmod b = a % b := Int.fmod_eq_emod_of_nonneg a (Int.le_of_lt h)
theorem fdiv_pos {a b : Int} (h : 0 ≤ b) : a.fdiv b = a / b := Int.fdiv_eq_ediv_of_nonneg a h
theorem atI_nat' {α : Type} {xs : List α} {i : Int} (h0 : 0 ≤ i) (h1 : i < xs.length) : atI xs i = xs[i.toNat]? := by
  unfold atI ixN
  rw [if_pos h0, if_pos h1]; rfl
theorem atI_some {α : Type} {xs : List α} {i : Int} (h0 : 0 ≤ i) (h1 : i < xs.length) : ∃ x, atI xs i = some x ∧ x ∈ xs := by
  rw [atI_nat' h0 h1]
  have h2 : i.toNat < xs.length := by omega
  exact ⟨xs[i.toNat], List.getElem?_eq_getElem h2, List.getElem_mem h2⟩
end Dn

/-! ## 23. Every form, at given slots -/
namespace Dn
open PySem L2
section
variable {α β : Type} (e : Sl)
/-- by computing, but told as a step of its own -/
theorem nr {γ : Type} {a b : γ} (h : a = b) : a = b := h
/-- what follows an outcome; kept as an instance, so that simp leaves it alone until it is reached -/
class Kont (α β : Type) where
  run : α → Sl → Option (Ro β)
@[inline] def thn' {α β : Type} (r : Option (Ro α)) [k : Kont α β] : Option (Ro β) := match r with
  | none => none
  | some (.ex x e') => some (.ex x e')
  | some (.ok a e') => k.run a e'
theorem thn_ok {a : α} {e' : Sl} {k : Kont α β} : @thn' _ _ (some (.ok a e')) k = k.run a e' := nr rfl
theorem thn_ex {x : Exn} {e' : Sl} {k : Kont α β} : @thn' _ _ (some (.ex x e')) k = some (.ex x e') := nr rfl
theorem thn_none {k : Kont α β} : @thn' _ _ none k = none := nr rfl
theorem thn_congr {r : Option (Ro α)} {f g : α → Sl → Option (Ro β)} (h : ∀ a e, f a e = g a e) : @thn' _ _ r ⟨f⟩ = @thn' _ _ r ⟨g⟩ := by rw [show f = g from funext fun a => funext fun e => h a e]
theorem bind_a (m : M α) (f : α → M β) : M.bind m f e = @thn' _ _ (m e) ⟨fun a e' => f a e'⟩ := nr rfl
theorem pure_a (a : α) : M.pure a e = some (.ok a e) := nr rfl
theorem stuck_a : (M.stuck : M α) e = none := nr rfl
def getO (e : Sl) (i : Nat) : Option O := match e[i]? with
  | some (some o) => some o
  | _ => none
theorem getO_nil (i : Nat) : getO [] i = none := by simp [getO]
theorem getO_0 (o : O) (es : Sl) : getO (some o :: es) 0 = some o := nr rfl
theorem getO_0n (es : Sl) : getO (none :: es) 0 = none := nr rfl
theorem getO_s (o : Option O) (es : Sl) (i : Nat) : getO (o :: es) (i + 1) = getO es i := by simp [getO]
theorem ops_n : ops [] e = some (.ok [] e) := nr rfl
theorem ops_b (i : Nat) (ps : List P) : ops (.b i :: ps) e = (match getO e i with
    | some _ => @thn' _ _ (ops ps e) ⟨fun ds e' => (match getO e' i with
      | some o => some (.ok (o.d :: ds) e')
      | none => none)⟩
    | none => none) := by
  conv => lhs; unfold ops
  unfold getO M.bind thn'
  cases h : e[i]? with
  | none => rfl
  | some u =>
    cases u with
    | none => rfl
    | some o =>
      dsimp only
      cases ops ps e with
      | none => rfl
      | some r =>
        cases r with
        | ex x e' => rfl
        | ok ds e' =>
          dsimp only
          cases h2 : e'[i]? with
          | none => rfl
          | some u => cases u <;> rfl
theorem ops_v (f : M O) (ps : List P) : ops (.v f :: ps) e = @thn' _ _ (f e) ⟨fun o e1 => @thn' _ _ (ops ps e1) ⟨fun ds e2 => some (.ok (o.d :: ds) e2)⟩⟩ := nr rfl
theorem ap_a (g : List D → Option O) (ps : List P) : ap g ps e = @thn' _ _ (ops ps e) ⟨fun ds e' => (g ds).map fun o => .ok o e'⟩ := nr rfl
theorem eC_a (d : D) : eC d e = some (.ok (.fr d) e) := nr rfl
theorem eVar_a (i : Nat) : eVar i e = (match getO e i with
    | some (.fr d) => some (.ok (.fr d) e)
    | some (.lst ds) => some (.ok (.fr (.lst ds)) (e.set i (some (.fr (.lst ds)))))
    | some (.dct ks ds) => some (.ok (.fr (.dct ks ds)) (e.set i (some (.fr (.dct ks ds)))))
    | some (.ins c ns ds) => some (.ok (.fr (.ins c ns ds)) (e.set i (some (.fr (.ins c ns ds)))))
    | _ => none) := by
  unfold eVar getO
  cases h : e[i]? with
  | none => rfl
  | some u => cases u with
    | none => rfl
    | some o => cases o <;> rfl
theorem eMove_a (i : Nat) : eMove i e = (match getO e i with
    | some (.fr d) => some (.ok (.fr d) e)
    | some o => some (.ok o (e.set i none))
    | none => none) := by
  unfold eMove getO
  cases h : e[i]? with
  | none => rfl
  | some u => cases u with
    | none => rfl
    | some o => cases o <;> rfl
theorem eFz_a (f : M O) : eFz f e = @thn' _ _ (f e) ⟨fun o e' => some (.ok (.fr o.d) e')⟩ := nr rfl
theorem eIf_a (c : M Bool) (f g : M O) : eIf c f g e = @thn' _ _ (c e) ⟨fun b e' => if b = true then f e' else g e'⟩ := by
  show @thn' _ _ (c e) ⟨_⟩ = _
  exact thn_congr fun b _ => by cases b <;> rfl
theorem eAnd_a (f g : M O) : eAnd f g e = @thn' _ _ (f e) ⟨fun o e' => (match o with
    | .fr (.bl true) => g e'
    | .fr (.bl false) => some (.ok (.fr (.bl false)) e')
    | _ => none)⟩ := by
  show @thn' _ _ (f e) ⟨_⟩ = _
  refine thn_congr fun o e' => ?_
  cases o with
  | lst _ => rfl
  | dct _ _ => rfl
  | ins _ _ _ => rfl
  | exn _ _ _ => rfl
  | fr d => cases d with
    | bl b => cases b <;> rfl
    | _ => rfl
theorem eOr_a (f g : M O) : eOr f g e = @thn' _ _ (f e) ⟨fun o e' => (match o with
    | .fr (.bl false) => g e'
    | .fr (.bl true) => some (.ok (.fr (.bl true)) e')
    | _ => none)⟩ := by
  show @thn' _ _ (f e) ⟨_⟩ = _
  refine thn_congr fun o e' => ?_
  cases o with
  | lst _ => rfl
  | dct _ _ => rfl
  | ins _ _ _ => rfl
  | exn _ _ _ => rfl
  | fr d => cases d with
    | bl b => cases b <;> rfl
    | _ => rfl
theorem eNot_a (f : M O) : eNot f e = @thn' _ _ (f e) ⟨fun o e' => (match o with
    | .fr (.bl b) => some (.ok (.fr (.bl (!b))) e')
    | _ => none)⟩ := by
  show @thn' _ _ (f e) ⟨_⟩ = _
  refine thn_congr fun o e' => ?_
  cases o with
  | lst _ => rfl
  | dct _ _ => rfl
  | ins _ _ _ => rfl
  | exn _ _ _ => rfl
  | fr d => cases d <;> rfl
theorem tst_a (f : M O) : tst f e = @thn' _ _ (f e) ⟨fun o e' => (match o with
    | .fr (.bl b) => some (.ok b e')
    | _ => none)⟩ := by
  show @thn' _ _ (f e) ⟨_⟩ = _
  refine thn_congr fun o e' => ?_
  cases o with
  | lst _ => rfl
  | dct _ _ => rfl
  | ins _ _ _ => rfl
  | exn _ _ _ => rfl
  | fr d => cases d <;> rfl
theorem cAnd_a (c d : M Bool) : cAnd c d e = @thn' _ _ (c e) ⟨fun b e' => if b = true then d e' else some (.ok false e')⟩ := by
  show @thn' _ _ (c e) ⟨_⟩ = _
  exact thn_congr fun b _ => by cases b <;> rfl
theorem cOr_a (c d : M Bool) : cOr c d e = @thn' _ _ (c e) ⟨fun b e' => if b = true then some (.ok true e') else d e'⟩ := by
  show @thn' _ _ (c e) ⟨_⟩ = _
  exact thn_congr fun b _ => by cases b <;> rfl
theorem cNot_a (c : M Bool) : cNot c e = @thn' _ _ (c e) ⟨fun b e' => some (.ok (!b) e')⟩ := nr rfl
theorem items_n : items [] e = some (.ok [] e) := nr rfl
theorem items_c (f : M O) (fs : List (M O)) : items (f :: fs) e = @thn' _ _ (f e) ⟨fun o e1 => @thn' _ _ (items fs e1) ⟨fun ds e2 => some (.ok (o.d :: ds) e2)⟩⟩ := nr rfl
theorem eTup_a (fs : List (M O)) : eTup fs e = @thn' _ _ (items fs e) ⟨fun ds e' => some (.ok (.fr (.tup ds)) e')⟩ := nr rfl
theorem eLst_a (fs : List (M O)) : eLst fs e = @thn' _ _ (items fs e) ⟨fun ds e' => some (.ok (.lst ds) e')⟩ := nr rfl
theorem sNext_a : sNext e = some (.ok .next e) := nr rfl
theorem sBrk_a : sBrk e = some (.ok .brk e) := nr rfl
theorem sCnt_a : sCnt e = some (.ok .cnt e) := nr rfl
theorem sSeq_a (a b : M Fl) : sSeq a b e = @thn' _ _ (a e) ⟨fun f e' => (match f with
    | .next => b e'
    | .ret o => some (.ok (.ret o) e')
    | .brk => some (.ok .brk e')
    | .cnt => some (.ok .cnt e'))⟩ := by
  show @thn' _ _ (a e) ⟨_⟩ = _
  exact thn_congr fun f _ => by cases f <;> rfl
theorem sIf_a (c : M Bool) (a b : M Fl) : sIf c a b e = @thn' _ _ (c e) ⟨fun t e' => if t = true then a e' else b e'⟩ := by
  show @thn' _ _ (c e) ⟨_⟩ = _
  exact thn_congr fun b _ => by cases b <;> rfl
theorem sRet_a (f : M O) : sRet f e = @thn' _ _ (f e) ⟨fun o e' => some (.ok (.ret o) e')⟩ := nr rfl
theorem sDrop_a (f : M O) : sDrop f e = @thn' _ _ (f e) ⟨fun _ e' => some (.ok .next e')⟩ := nr rfl
theorem sSet_a (i : Nat) (f : M O) : sSet i f e = @thn' _ _ (f e) ⟨fun o e' => some (.ok .next (e'.set i (some o)))⟩ := nr rfl
theorem sFor_a (src : M (List D)) (tg : Tg) (b : M Fl) : sFor src tg b e = @thn' _ _ (src e) ⟨fun ds e' => forL tg b ds e'⟩ := nr rfl
theorem eCall_a (F : Fn) (ps : List P) (dv : List D) : eCall F ps dv e = @thn' _ _ (cops ps e) ⟨fun os e' => (match F (os ++ dv.map .fr) with
    | none => none
    | some (.ok o os') => some (.ok o (wb ps os' e'))
    | some (.ex x os') => some (.ex x (wb ps os' e')))⟩ := nr rfl
theorem cops_n : cops [] e = some (.ok [] e) := nr rfl
theorem cops_b (i : Nat) (ps : List P) : cops (.b i :: ps) e = (match getO e i with
    | some _ => @thn' _ _ (cops ps e) ⟨fun ds e' => (match getO e' i with
      | some o => some (.ok (o :: ds) e')
      | none => none)⟩
    | none => none) := by
  conv => lhs; unfold cops
  unfold getO M.bind thn'
  cases h : e[i]? with
  | none => rfl
  | some u =>
    cases u with
    | none => rfl
    | some o =>
      dsimp only
      cases cops ps e with
      | none => rfl
      | some r =>
        cases r with
        | ex x e' => rfl
        | ok ds e' =>
          dsimp only
          cases h2 : e'[i]? with
          | none => rfl
          | some u => cases u <;> rfl
theorem cops_v (f : M O) (ps : List P) : cops (.v f :: ps) e = @thn' _ _ (f e) ⟨fun o e1 => @thn' _ _ (cops ps e1) ⟨fun ds e2 => some (.ok (.fr o.d :: ds) e2)⟩⟩ := nr rfl
theorem sSeqD_a (f : M O) : sSeqD f e = @thn' _ _ (f e) ⟨fun o e' => (seqD o.d).map fun ds => .ok ds e'⟩ := nr rfl
theorem sRng1_a (p : P) : sRng1 p e = @thn' _ _ (ops [p] e) ⟨fun ds e' => (match ds with
    | [.int j] => if inR j = true then some (.ok (rngD 0 j) e') else none
    | _ => none)⟩ := nr rfl
theorem sRng2_a (p q : P) : sRng2 p q e = @thn' _ _ (ops [p, q] e) ⟨fun ds e' => (match ds with
    | [.int i, .int j] => if (inR i && inR j) = true then some (.ok (rngD i j) e') else none
    | _ => none)⟩ := nr rfl
theorem sEnum_a (p : P) : sEnum p e = @thn' _ _ (ops [p] e) ⟨fun ds e' => (match ds with
    | [.lst xs] => some (.ok (enumD 0 xs) e')
    | _ => none)⟩ := nr rfl
theorem eComp_a (own : List Nat) (src : M (List D)) (tg : Tg) (t : M Bool) (f : M O) : eComp own src tg t f e = @thn' _ _ (src e) ⟨fun ds e' => (match lcL own tg t f ds [] (wipeE e' own) with
    | some (acc, e2) => some (.ok (.lst acc) (restE e' e2 own))
    | none => none)⟩ := nr rfl
theorem eMut1_a (g : List D → D → Option (D × List D)) (i : Nat) (f : M O) : eMut1 g i f e = (match getO e i with
    | some (.lst _) => @thn' _ _ (f e) ⟨fun o e' => (match getO e' i with
      | some (.lst ds) => (match g ds o.d with
        | some (r, ds') => some (.ok (.fr r) (e'.set i (some (.lst ds'))))
        | none => none)
      | _ => none)⟩
    | _ => none) := by
  unfold eMut1 getO M.bind thn'
  cases h : e[i]? with
  | none => rfl
  | some u =>
    cases u with
    | none => rfl
    | some o =>
      cases o with
      | fr d => rfl
      | dct _ _ => rfl
      | ins _ _ _ => rfl
      | exn _ _ _ => rfl
      | lst ds =>
        dsimp only
        cases f e with
        | none => rfl
        | some r =>
          cases r with
          | ex x e' => rfl
          | ok ds e' =>
            dsimp only
            cases h2 : e'[i]? with
            | none => rfl
            | some u => cases u with
              | none => rfl
              | some o => cases o <;> rfl
theorem eMut0_a (g : List D → Option (D × List D)) (i : Nat) : eMut0 g i e = (match getO e i with
    | some (.lst ds) => (match g ds with
      | some (r, ds') => some (.ok (.fr r) (e.set i (some (.lst ds'))))
      | none => none)
    | _ => none) := by
  unfold eMut0 getO
  cases h : e[i]? with
  | none => rfl
  | some u =>
    cases u with
    | none => rfl
    | some o => cases o <;> rfl
theorem sSetIx_a (i : Nat) (fk fv : M O) : sSetIx i fk fv e = @thn' _ _ (fv e) ⟨fun o e1 => (match getO e1 i with
    | some (.lst _) => @thn' _ _ (fk e1) ⟨fun k e2 => (match getO e2 i with
      | some (.lst ds) => (match k with
        | .fr (.int j) => (match ixN ds.length j with
          | some n => some (.ok .next (e2.set i (some (.lst (ds.set n o.d)))))
          | none => none)
        | _ => none)
      | _ => none)⟩
    | _ => none)⟩ := by
  show @thn' _ _ (fv e) ⟨_⟩ = _
  refine thn_congr fun o e1 => ?_
  unfold getO M.bind thn'
  cases h : e1[i]? with
  | none => rfl
  | some u =>
    cases u with
    | none => rfl
    | some o =>
      cases o with
      | fr d => rfl
      | dct _ _ => rfl
      | ins _ _ _ => rfl
      | exn _ _ _ => rfl
      | lst ds =>
        dsimp only
        cases fk e1 with
        | none => rfl
        | some r =>
          cases r with
          | ex x e' => rfl
          | ok k e2 =>
            dsimp only
            cases h2 : e2[i]? with
            | none => rfl
            | some u => cases u with
              | none => rfl
              | some o => cases o <;> rfl
theorem eChain_a (g g2 : List D → Option O) (fa fb fc : M O) : eChain g g2 fa fb fc e = @thn' _ _ (fa e) ⟨fun oa e1 => @thn' _ _ (fb e1) ⟨fun ob e2 => (match g [oa.d, ob.d] with
    | some (.fr (.bl true)) => @thn' _ _ (fc e2) ⟨fun oc e3 => (g2 [ob.d, oc.d]).map fun o => .ok o e3⟩
    | some (.fr (.bl false)) => some (.ok (bO false) e2)
    | _ => none)⟩⟩ := nr rfl
theorem tru_a (p : P) : tru p e = @thn' _ _ (ops [p] e) ⟨fun ds e' => (match ds with
    | [d] => (truD d).map fun b => .ok b e'
    | _ => none)⟩ := nr rfl
theorem sAug_a (g : List D → Option O) (i : Nat) (f : M O) : sAug g i f e = (match getO e i with
    | some (.fr a) => @thn' _ _ (f e) ⟨fun o e' => (match g [a, o.d] with
      | some (.fr r) => some (.ok .next (e'.set i (some (.fr r))))
      | _ => none)⟩
    | _ => none) := by
  unfold sAug getO
  cases h : e[i]? with
  | none => rfl
  | some u =>
    cases u with
    | none => rfl
    | some o =>
      cases o with
      | lst _ => rfl
      | dct _ _ => rfl
      | ins _ _ _ => rfl
      | exn _ _ _ => rfl
      | fr a => rfl
theorem sSetT_a (tg : Tg) (f : M O) : sSetT tg f e = @thn' _ _ (f e) ⟨fun o e' => (tg.go o.d e').map fun e2 => .ok .next e2⟩ := nr rfl
theorem apM_b (chk : D → Bool) (g : List D → Option O) (i : Nat) (ps : List P) : apM chk g (.b i) ps e = (match getO e i with
    | some o => if chk o.d = true then ap g (.b i :: ps) e else none
    | none => none) := by
  unfold apM getO
  dsimp only
  cases h : e[i]? with
  | none => rfl
  | some u => cases u <;> rfl
theorem apM_v (chk : D → Bool) (g : List D → Option O) (f : M O) (ps : List P) : apM chk g (.v f) ps e = @thn' _ _ (f e) ⟨fun o e1 => if chk o.d = true then (@thn' _ _ (ops ps e1) ⟨fun ds e' => (g (o.d :: ds)).map fun r => .ok r e'⟩) else none⟩ := by
  unfold apM
  show @thn' _ _ (f e) ⟨_⟩ = _
  refine thn_congr fun o e1 => ?_
  cases chk o.d <;> rfl
theorem eI_a (f : M O) : eI f e = @thn' _ _ (f e) ⟨fun o e' => (match o with
    | .fr (.int i) => some (.ok (.fr (.int i)) e')
    | _ => none)⟩ := by
  show @thn' _ _ (f e) ⟨_⟩ = _
  refine thn_congr fun o e' => ?_
  cases o with
  | lst _ => rfl
  | dct _ _ => rfl
  | ins _ _ _ => rfl
  | exn _ _ _ => rfl
  | fr d => cases d <;> rfl
theorem mkF_a (m : Nat) (ks : List Nat) (g : M Fl) (os : List O) : mkF m ks g os = (match g (os.map some ++ List.replicate (m - os.length) none) with
    | some (.ok (.ret o) e') => (finO ks 0 os e').map (RF.ok o)
    | some (.ok .next e') => (finO ks 0 os e').map (RF.ok (.fr .non))
    | some (.ex x e') => (finO ks 0 os e').map (RF.ex x)
    | _ => none) := by
  unfold mkF
  cases g (os.map some ++ List.replicate (m - os.length) none) with
  | none => rfl
  | some r => cases r with
    | ex x e' => rfl
    | ok fl e' => cases fl <;> rfl
theorem finO_n (ks : List Nat) (k : Nat) : finO ks k [] e = some [] := nr rfl
theorem finO_c (ks : List Nat) (k : Nat) (o : O) (os : List O) : finO ks k (o :: os) e = (match (if k ∈ ks then getO e k else (match o with | .fr d => some (.fr d) | _ => none)) with
    | some o' => (finO ks (k + 1) os e).map (o' :: ·)
    | none => none) := by
  conv => lhs; unfold finO
  unfold getO
  by_cases h : k ∈ ks
  · simp only [if_pos h] <;> (rcases e[k]? with _ | (_ | _) <;> rfl)
  · simp only [if_neg h] <;> cases o <;> rfl
end
end Dn

namespace Dn
open PySem L2
theorem isi_int_non  : isi "int" .non = some false := (by decide +kernel : kitB "NoneType" "int" = some false)
theorem isi_int_bl (x : Bool) : isi "int" (.bl x) = some true := (by decide +kernel : kitB "bool" "int" = some true)
theorem isi_int_int (x : Int) : isi "int" (.int x) = some true := (by decide +kernel : kitB "int" "int" = some true)
theorem isi_int_str (x : Str) : isi "int" (.str x) = some false := (by decide +kernel : kitB "str" "int" = some false)
theorem isi_int_lst (x : List D) : isi "int" (.lst x) = some false := (by decide +kernel : kitB "list" "int" = some false)
theorem isi_int_scr (x : List Int) : isi "int" (.scr x) = some false := (by decide +kernel : kitB "list" "int" = some false)
theorem isi_int_tup (x : List D) : isi "int" (.tup x) = some false := (by decide +kernel : kitB "tuple" "int" = some false)
theorem isi_bool_non  : isi "bool" .non = some false := (by decide +kernel : kitB "NoneType" "bool" = some false)
theorem isi_bool_bl (x : Bool) : isi "bool" (.bl x) = some true := (by decide +kernel : kitB "bool" "bool" = some true)
theorem isi_bool_int (x : Int) : isi "bool" (.int x) = some false := (by decide +kernel : kitB "int" "bool" = some false)
theorem isi_bool_str (x : Str) : isi "bool" (.str x) = some false := (by decide +kernel : kitB "str" "bool" = some false)
theorem isi_bool_lst (x : List D) : isi "bool" (.lst x) = some false := (by decide +kernel : kitB "list" "bool" = some false)
theorem isi_bool_scr (x : List Int) : isi "bool" (.scr x) = some false := (by decide +kernel : kitB "list" "bool" = some false)
theorem isi_bool_tup (x : List D) : isi "bool" (.tup x) = some false := (by decide +kernel : kitB "tuple" "bool" = some false)
theorem isi_str_non  : isi "str" .non = some false := (by decide +kernel : kitB "NoneType" "str" = some false)
theorem isi_str_bl (x : Bool) : isi "str" (.bl x) = some false := (by decide +kernel : kitB "bool" "str" = some false)
theorem isi_str_int (x : Int) : isi "str" (.int x) = some false := (by decide +kernel : kitB "int" "str" = some false)
theorem isi_str_str (x : Str) : isi "str" (.str x) = some true := (by decide +kernel : kitB "str" "str" = some true)
theorem isi_str_lst (x : List D) : isi "str" (.lst x) = some false := (by decide +kernel : kitB "list" "str" = some false)
theorem isi_str_scr (x : List Int) : isi "str" (.scr x) = some false := (by decide +kernel : kitB "list" "str" = some false)
theorem isi_str_tup (x : List D) : isi "str" (.tup x) = some false := (by decide +kernel : kitB "tuple" "str" = some false)
theorem isi_list_non  : isi "list" .non = some false := (by decide +kernel : kitB "NoneType" "list" = some false)
theorem isi_list_bl (x : Bool) : isi "list" (.bl x) = some false := (by decide +kernel : kitB "bool" "list" = some false)
theorem isi_list_int (x : Int) : isi "list" (.int x) = some false := (by decide +kernel : kitB "int" "list" = some false)
theorem isi_list_str (x : Str) : isi "list" (.str x) = some false := (by decide +kernel : kitB "str" "list" = some false)
theorem isi_list_lst (x : List D) : isi "list" (.lst x) = some true := (by decide +kernel : kitB "list" "list" = some true)
theorem isi_list_scr (x : List Int) : isi "list" (.scr x) = some true := (by decide +kernel : kitB "list" "list" = some true)
theorem isi_list_tup (x : List D) : isi "list" (.tup x) = some false := (by decide +kernel : kitB "tuple" "list" = some false)
theorem isi_tuple_non  : isi "tuple" .non = some false := (by decide +kernel : kitB "NoneType" "tuple" = some false)
theorem isi_tuple_bl (x : Bool) : isi "tuple" (.bl x) = some false := (by decide +kernel : kitB "bool" "tuple" = some false)
theorem isi_tuple_int (x : Int) : isi "tuple" (.int x) = some false := (by decide +kernel : kitB "int" "tuple" = some false)
theorem isi_tuple_str (x : Str) : isi "tuple" (.str x) = some false := (by decide +kernel : kitB "str" "tuple" = some false)
theorem isi_tuple_lst (x : List D) : isi "tuple" (.lst x) = some false := (by decide +kernel : kitB "list" "tuple" = some false)
theorem isi_tuple_scr (x : List Int) : isi "tuple" (.scr x) = some false := (by decide +kernel : kitB "list" "tuple" = some false)
theorem isi_tuple_tup (x : List D) : isi "tuple" (.tup x) = some true := (by decide +kernel : kitB "tuple" "tuple" = some true)
end Dn

namespace Dn
open PySem L2

/-! ## 24. What holds of an outcome -/
class PostE (α : Type) where
  run : α → Sl → Prop
def EvC {α : Type} (r : Option (Ro α)) [Q : PostE α] [X : PostE Exn] : Prop := match r with
  | some (.ok a e) => Q.run a e
  | some (.ex x e) => X.run x e
  | none => False
def Ev {α : Type} (r : Option (Ro α)) (Q : α → Sl → Prop) (X : Exn → Sl → Prop) : Prop := @EvC _ r ⟨Q⟩ ⟨X⟩
class PostF (α : Type) where
  run : α → List O → Prop
def FEvC (r : Option RF) [Q : PostF O] [X : PostF Exn] : Prop := match r with
  | some (.ok o os) => Q.run o os
  | some (.ex x os) => X.run x os
  | none => False
def FEv (r : Option RF) (Q : O → List O → Prop) (X : Exn → List O → Prop) : Prop := @FEvC r ⟨Q⟩ ⟨X⟩
section
variable {α β : Type}
theorem Ev_d {r : Option (Ro α)} {Q : α → Sl → Prop} {X : Exn → Sl → Prop} : Ev r Q X = @EvC _ r ⟨Q⟩ ⟨X⟩ := nr rfl
theorem FEv_d {r : Option RF} {Q : O → List O → Prop} {X : Exn → List O → Prop} : FEv r Q X = @FEvC r ⟨Q⟩ ⟨X⟩ := nr rfl
theorem Ev_ok {a : α} {e : Sl} {Q : PostE α} {X : PostE Exn} : @EvC _ (some (.ok a e)) Q X = Q.run a e := nr rfl
theorem Ev_ex {x : Exn} {e : Sl} {Q : PostE α} {X : PostE Exn} : @EvC _ (some (.ex x e)) Q X = X.run x e := nr rfl
theorem Ev_none {Q : PostE α} {X : PostE Exn} : @EvC _ none Q X = False := nr rfl
theorem FEv_ok {a : O} {e : List O} {Q : PostF O} {X : PostF Exn} : @FEvC (some (.ok a e)) Q X = Q.run a e := nr rfl
theorem FEv_ex {x : Exn} {e : List O} {Q : PostF O} {X : PostF Exn} : @FEvC (some (.ex x e)) Q X = X.run x e := nr rfl
theorem FEv_none {Q : PostF O} {X : PostF Exn} : @FEvC none Q X = False := nr rfl
theorem Ev_thn {r : Option (Ro α)} {k : Kont α β} {Q : PostE β} {X : PostE Exn} : @EvC _ (@thn' _ _ r k) Q X = @EvC _ r ⟨fun a e => @EvC _ (k.run a e) Q X⟩ X := by
  cases r with
  | none => rfl
  | some r => cases r <;> rfl
theorem Ev.mono {r : Option (Ro α)} {Q Q' : α → Sl → Prop} {X X' : Exn → Sl → Prop} (h : Ev r Q X) (hq : ∀ a e, Q a e → Q' a e) (hx : ∀ x e, X x e → X' x e) : Ev r Q' X' := by
  unfold Ev EvC at *
  cases r with
  | none => exact h
  | some r => cases r with
    | ok a e => exact hq _ _ h
    | ex x e => exact hx _ _ h
theorem FEv.mono {r : Option RF} {Q Q' : O → List O → Prop} {X X' : Exn → List O → Prop} (h : FEv r Q X) (hq : ∀ a e, Q a e → Q' a e) (hx : ∀ x e, X x e → X' x e) : FEv r Q' X' := by
  unfold FEv FEvC at *
  cases r with
  | none => exact h
  | some r => cases r with
    | ok a e => exact hq _ _ h
    | ex x e => exact hx _ _ h
theorem Ev.get {r : Option (Ro α)} {Q : α → Sl → Prop} (h : Ev r Q fun _ _ => False) : ∃ a e, r = some (.ok a e) ∧ Q a e := by
  unfold Ev EvC at h
  split at h
  · exact ⟨_, _, rfl, h⟩
  · exact h.elim
  · exact h.elim
theorem FEv.get {r : Option RF} {Q : O → List O → Prop} (h : FEv r Q fun _ _ => False) : ∃ a e, r = some (.ok a e) ∧ Q a e := by
  unfold FEv FEvC at h
  split at h
  · exact ⟨_, _, rfl, h⟩
  · exact h.elim
  · exact h.elim
theorem FEv.of {r : Option RF} {o : O} {os : List O} {Q : O → List O → Prop} {X : Exn → List O → Prop} (h : r = some (.ok o os)) (q : Q o os) : FEv r Q X := by rw [h]; exact q
/-- what a def hands back, of what its body does -/
def finR (ks : List Nat) (os : List O) (r : Option (Ro Fl)) : Option RF := match r with
  | some (.ok (.ret o) e') => (finO ks 0 os e').map (RF.ok o)
  | some (.ok .next e') => (finO ks 0 os e').map (RF.ok (.fr .non))
  | some (.ex x e') => (finO ks 0 os e').map (RF.ex x)
  | _ => none
theorem mkF_e (m : Nat) (ks : List Nat) (g : M Fl) (os : List O) : mkF m ks g os = finR ks os (g (os.map some ++ List.replicate (m - os.length) none)) := mkF_a m ks g os
theorem finR_ret {ks : List Nat} {os : List O} {o : O} {e : Sl} : finR ks os (some (.ok (.ret o) e)) = (finO ks 0 os e).map (RF.ok o) := nr rfl
theorem finR_next {ks : List Nat} {os : List O} {e : Sl} : finR ks os (some (.ok .next e)) = (finO ks 0 os e).map (RF.ok (.fr .non)) := nr rfl
theorem finR_ex {ks : List Nat} {os : List O} {x : Exn} {e : Sl} : finR ks os (some (.ex x e)) = (finO ks 0 os e).map (RF.ex x) := nr rfl
theorem FEv_fin {ks : List Nat} {os : List O} {r : Option (Ro Fl)} {Q : PostF O} {X : PostF Exn} : @FEvC (finR ks os r) Q X = @EvC _ r ⟨fun fl e => match fl with
    | .ret o => @FEvC ((finO ks 0 os e).map (RF.ok o)) Q X
    | .next => @FEvC ((finO ks 0 os e).map (RF.ok (.fr .non))) Q X
    | _ => False⟩ ⟨fun x e => @FEvC ((finO ks 0 os e).map (RF.ex x)) Q X⟩ := by
  unfold finR EvC
  cases r with
  | none => rfl
  | some r => cases r with
    | ex x e => rfl
    | ok fl e => cases fl <;> rfl
/-- what a loop may do in one turn -/
def TurnOk (R : M Fl) (e : Sl) (I : Sl → Prop) (Rt : O → Sl → Prop) (Bk : Sl → Prop) (X : Exn → Sl → Prop) : Prop := Ev (R e) (fun fl e2 => match fl with
  | .next => I e2
  | .cnt => I e2
  | .brk => Bk e2
  | .ret o => Rt o e2) X
theorem Ev_forL {tg : Tg} {body : M Fl} {X : Exn → Sl → Prop} (I : Nat → Sl → Prop) (Q : Fl → Sl → Prop) : ∀ (ds : List D) (e : Sl), I 0 e →
    (∀ (i : Nat) (d : D) (e : Sl), ds[i]? = some d → I i e → ∃ e1, tg.go d e = some e1 ∧ Ev (body e1) (fun fl e2 => match fl with
      | .next => I (i + 1) e2
      | .cnt => I (i + 1) e2
      | .brk => Q .next e2
      | .ret o => Q (.ret o) e2) X) → (∀ e, I ds.length e → Q .next e) →
    Ev (forL tg body ds e) Q X
  | [], e, h0, _, hq => hq e h0
  | d :: ds, e, h0, hs, hq => by
    obtain ⟨e1, h1, h2⟩ := hs 0 d e rfl h0
    unfold Ev EvC at h2
    unfold forL
    rw [h1]
    dsimp only
    cases h3 : body e1 with
    | none => rw [h3] at h2; exact h2.elim
    | some r =>
      rw [h3] at h2
      cases r with
      | ex x e2 => exact h2
      | ok fl e2 =>
        cases fl with
        | next => exact Ev_forL (fun i => I (i + 1)) Q ds e2 h2 (fun i d e hd hi => hs (i + 1) d e hd hi) hq
        | cnt => exact Ev_forL (fun i => I (i + 1)) Q ds e2 h2 (fun i d e hd hi => hs (i + 1) d e hd hi) hq
        | brk => exact h2
        | ret o => exact h2
theorem Ev_whL {c : M Bool} {body : M Fl} {X : Exn → Sl → Prop} (I : Nat → Sl → Prop) (Q : Fl → Sl → Prop) (hs : ∀ (m : Nat) (e : Sl), I m e → Ev (c e) (fun b e1 => if b = true then Ev (body e1) (fun fl e2 => match fl with
      | .next => ∃ m', m' < m ∧ I m' e2
      | .cnt => ∃ m', m' < m ∧ I m' e2
      | .brk => Q .next e2
      | .ret o => Q (.ret o) e2) X else Q .next e1) X) : ∀ (n m : Nat) (e : Sl), m < n → I m e → Ev (whL c body n e) Q X
  | 0, _, _, h, _ => absurd h (Nat.not_lt_zero _)
  | n + 1, m, e, hn, hi => by
    have h := hs m e hi
    unfold whL M.bind
    unfold Ev EvC at h
    cases h1 : c e with
    | none => rw [h1] at h; exact h.elim
    | some r =>
      rw [h1] at h
      cases r with
      | ex x e1 => exact h
      | ok b e1 =>
        dsimp only at h ⊢
        cases b with
        | false => exact h
        | true =>
          rw [if_pos rfl] at h
          rw [if_pos rfl]
          cases h2 : body e1 with
          | none => rw [h2] at h; exact h.elim
          | some r =>
            rw [h2] at h
            cases r with
            | ex x e2 => exact h
            | ok fl e2 =>
              cases fl with
              | next => obtain ⟨m', hm, hi'⟩ := h; exact Ev_whL I Q hs n m' e2 (by omega) hi'
              | cnt => obtain ⟨m', hm, hi'⟩ := h; exact Ev_whL I Q hs n m' e2 (by omega) hi'
              | brk => exact h
              | ret o => exact h
/-- what is left of a call -/
def callR (ps : List P) (e : Sl) (r : Option RF) : Option (Ro O) := match r with
  | none => none
  | some (.ok o os') => some (.ok o (wb ps os' e))
  | some (.ex x os') => some (.ex x (wb ps os' e))
theorem callR_ok {ps : List P} {e : Sl} {o : O} {os : List O} : callR ps e (some (.ok o os)) = some (.ok o (wb ps os e)) := nr rfl
theorem callR_ex {ps : List P} {e : Sl} {x : Exn} {os : List O} : callR ps e (some (.ex x os)) = some (.ex x (wb ps os e)) := nr rfl
theorem eCall_e (F : Fn) (ps : List P) (dv : List D) (e : Sl) : eCall F ps dv e = @thn' _ _ (cops ps e) ⟨fun os e' => callR ps e' (F (os ++ dv.map .fr))⟩ := eCall_a e F ps dv
theorem Ev_callR {ps : List P} {e : Sl} {r : Option RF} {Q : PostE O} {X : PostE Exn} : @EvC _ (callR ps e r) Q X = @FEvC r ⟨fun o os' => Q.run o (wb ps os' e)⟩ ⟨fun x os' => X.run x (wb ps os' e)⟩ := by
  cases r with
  | none => rfl
  | some r => cases r <;> rfl
/-- what is left of a comprehension -/
def lcR (own : List Nat) (e : Sl) (r : Option (List D × Sl)) : Option (Ro O) := match r with
  | some (acc, e2) => some (.ok (.lst acc) (restE e e2 own))
  | none => none
theorem lcR_ok {own : List Nat} {e : Sl} {acc : List D} {e2 : Sl} : lcR own e (some (acc, e2)) = some (.ok (.lst acc) (restE e e2 own)) := nr rfl
theorem eComp_e (own : List Nat) (src : M (List D)) (tg : Tg) (t : M Bool) (f : M O) (e : Sl) : eComp own src tg t f e = @thn' _ _ (src e) ⟨fun ds e' => lcR own e' (lcL own tg t f ds [] (wipeE e' own))⟩ := nr rfl
theorem Ev_lcR {own : List Nat} {e : Sl} {r : Option (List D × Sl)} {Q : PostE O} {X : PostE Exn} : @EvC _ (lcR own e r) Q X = ∃ acc e2, r = some (acc, e2) ∧ Q.run (.lst acc) (restE e e2 own) := by
  cases r with
  | none => exact propext ⟨fun h => h.elim, fun ⟨_, _, h, _⟩ => by cases h⟩
  | some r => exact propext ⟨fun h => ⟨_, _, rfl, h⟩, fun ⟨_, _, h, q⟩ => by cases h; exact q⟩
end
theorem wipeE_n (e : Sl) : wipeE e [] = e := nr rfl
theorem wipeE_c (e : Sl) (v : Nat) (vs : List Nat) : wipeE e (v :: vs) = (wipeE e vs).set v none := nr rfl
theorem restE_n (e0 e : Sl) : restE e0 e [] = e := nr rfl
theorem restE_c (e0 e : Sl) (v : Nat) (vs : List Nat) : restE e0 e (v :: vs) = (match getO e0 v with
    | some (.fr d) => (restE e0 e vs).set v (some (.fr d))
    | _ => restE e0 e vs) := by
  conv => lhs; unfold restE
  unfold getO
  cases e0[v]? with
  | none => rfl
  | some u => cases u with
    | none => rfl
    | some o => cases o <;> rfl
theorem mul_small {i j : Int} (h : -(2 ^ 64) < i ∧ i < 2 ^ 64) : mulOk i j = true := by
  unfold mulOk
  rw [decide_eq_true h]; rfl
theorem mul_small' {i j : Int} (h : -(2 ^ 64) < j ∧ j < 2 ^ 64) : mulOk i j = true := by
  unfold mulOk
  rw [decide_eq_true h, Bool.or_true]
theorem mod_ge {a b : Int} (h : 0 < b) : 0 ≤ a % b := Int.emod_nonneg a (by omega)
theorem mod_lt {a b : Int} (h : 0 < b) : a % b < b := Int.emod_lt_of_pos a h
theorem inR_pos {i : Int} (h0 : 0 ≤ i) (h1 : i ≤ 1000000) : inR i = true := by unfold inR; exact decide_eq_true ⟨by omega, by omega⟩
theorem rngD_mem {lo hi : Int} {d : D} (h : d ∈ rngD lo hi) : ∃ i : Int, d = .int i ∧ lo ≤ i ∧ i < hi := by
  obtain ⟨k, hk⟩ := List.getElem?_of_mem h
  obtain ⟨h1, h2⟩ := rngD_get hk
  exact ⟨_, h1, by omega, by omega⟩
end Dn

namespace Dn
open PySem L2

/-! ## 25. Texts by their signs -/
abbrev zl (z : Str) : List Nat := z.cps.toList
abbrev one (c : Nat) : Str := ⟨#[c]⟩
theorem len_zl (z : Str) : z.length = (zl z).length := rfl
theorem zl_inj {a b : Str} (h : zl a = zl b) : a = b := by
  have hc : a.cps = b.cps := Array.toList_inj.mp h
  cases a; cases b
  simp only [Str.mk.injEq]; exact hc
theorem zl_app (a b : Str) : zl (a ++ b) = zl a ++ zl b := by
  show (a.cps ++ b.cps).toList = _
  exact Array.toList_append
theorem zl_one (c : Nat) : zl (one c) = [c] := rfl
theorem zl_e : zl (PySem.Str.ofString "") = [] := by decide +kernel
theorem zl_join0 : ∀ l : List Str, zl (Txt.join (PySem.Str.ofString "") l) = l.flatMap zl
  | [] => by rw [TL.join_eq]; rfl
  | [x] => by
    rw [TL.join_eq]
    show zl x = [x].flatMap zl
    rw [List.flatMap_cons, List.flatMap_nil, List.append_nil]
  | x :: y :: r => by
    have ih := zl_join0 (y :: r)
    rw [TL.join_eq] at ih ⊢
    show zl (x ++ PySem.Str.ofString "" ++ Str.join _ (y :: r)) = _
    rw [zl_app, zl_app, zl_e, List.append_nil, ih, List.flatMap_cons, List.flatMap_cons, List.flatMap_cons]
theorem zl_ones (cs : List Nat) : zl (Txt.join (PySem.Str.ofString "") (cs.map one)) = cs := by
  rw [zl_join0]
  induction cs with
  | nil => rfl
  | cons c cs ih => rw [List.map_cons, List.flatMap_cons, ih]; rfl
theorem sum_ones (cs : List Nat) : ((cs.map one).map (·.length)).sum = cs.length := by
  induction cs with
  | nil => rfl
  | cons c cs ih => rw [List.map_cons, List.map_cons, List.sum_cons, ih, List.length_cons]; show 1 + _ = _; omega
/-- the signs, one by one, set together -/
theorem gJoin_ones {cs : List Nat} (h : cs.length ≤ 10000000) : gJoin [.str (PySem.Str.ofString ""), .lst (cs.map fun c => .str (one c))] = some (sO ⟨cs.toArray⟩) := by
  have e : (cs.map fun c => D.str (one c)) = (cs.map one).map D.str := by rw [List.map_map]; rfl
  have z : (PySem.Str.ofString "").length = 0 := by decide +kernel
  rw [e]
  show (strsD ((cs.map one).map D.str)).bind _ = _
  rw [strsD_str]
  show (if ((cs.map one).map (·.length)).sum + (cs.map one).length * (PySem.Str.ofString "").length ≤ 16777216 then _ else _) = _
  rw [sum_ones, z, if_pos (by omega)]
  congr 3
  exact zl_inj (zl_ones cs)
theorem zl_mk (cs : List Nat) : zl ⟨cs.toArray⟩ = cs := rfl
theorem len_mk (cs : List Nat) : Str.length ⟨cs.toArray⟩ = cs.length := rfl
theorem len_app (a b : Str) : (a ++ b).length = a.length + b.length := Str.length_append a b
theorem len_one (c : Nat) : (one c).length = 1 := rfl
theorem len_cut (a : Str) (lo hi : Option Int) : (cutS a lo hi).length ≤ a.length := cutS_length a lo hi
def onI (f : Int → D) : D → D
  | .int r => f r
  | d => d
theorem onI_map (f : Int → D) (rs : List Int) : (rs.map D.int).map (onI f) = rs.map f := by rw [List.map_map]; rfl
/-- the first place where two rows of the same length part -/
theorem lt_at : ∀ {i : Nat} {xs ys : List Nat} {x y : Nat}, xs.take i = ys.take i → xs[i]? = some x → ys[i]? = some y → x ≠ y → (xs < ys ↔ x < y)
  | 0, x' :: xs, y' :: ys, x, y, _, h1, h2, hn => by
    have h1' : x' = x := by simpa using h1
    have h2' : y' = y := by simpa using h2
    subst h1'; subst h2'
    rw [List.cons_lt_cons_iff]
    exact ⟨fun h => h.elim id fun h => absurd h.1 hn, .inl⟩
  | 0, [], _, x, y, _, h1, _, _ => by simp at h1
  | 0, _ :: _, [], x, y, _, _, h2, _ => by simp at h2
  | i + 1, [], _, x, y, _, h1, _, _ => by simp at h1
  | i + 1, _ :: _, [], x, y, _, _, h2, _ => by simp at h2
  | i + 1, x' :: xs, y' :: ys, x, y, h, h1, h2, hn => by
    rw [List.take_succ_cons, List.take_succ_cons] at h
    injection h with ha hb
    subst ha
    rw [List.cons_lt_cons_iff, ← lt_at hb (by simpa using h1) (by simpa using h2) hn]
    exact ⟨fun h => h.elim (fun h => absurd h (Nat.lt_irrefl _)) And.right, fun h => .inr ⟨rfl, h⟩⟩
theorem take_step {α : Type} {xs ys : List α} {i : Nat} {x : α} (h : xs.take i = ys.take i) (h1 : xs[i]? = some x) (h2 : ys[i]? = some x) : xs.take (i + 1) = ys.take (i + 1) := by
  rw [List.take_succ, List.take_succ, h, h1, h2]
theorem atI_cps {z : Str} {i : Int} (h0 : 0 ≤ i) (h1 : i < z.length) : ∃ c, atI z.cps.toList i = some c ∧ (zl z)[i.toNat]? = some c := by
  have h1' : i < (zl z).length := h1
  rw [atI_nat' h0 h1']
  have h2 : i.toNat < (zl z).length := by omega
  exact ⟨_, List.getElem?_eq_getElem h2, List.getElem?_eq_getElem h2⟩
/-- (len, text) by order -/
theorem lt_lenText (a b : Str) (n m : Int) : ordOk (.tup [.int n, .str a]) (.tup [.int m, .str b]) = true ∧ W.dataLt (D.tup [.int n, .str a]).py (D.tup [.int m, .str b]).py = decide (n < m ∨ (n = m ∧ zl a < zl b)) := by
  refine ⟨by simp [ordOk, D.nx, D.nxs, D.py, D.pys, W.alike, W.alikeAll, PyData.depth, PyData.depthAll], ?_⟩
  rw [D.py, D.py, W.dataLt_tuple, D.pys, D.pys, D.pys, D.pys, D.pys, D.py, D.py, D.pys, D.py, D.py]
  by_cases h : n = m
  · subst h
    rw [W.dataLt_all_yes (by simp [W.alike]) (by simp [PyData.eqv])]
    by_cases e : a = b
    · subst e
      rw [W.dataLt_all_yes (by simp [W.alike]) (by simp [PyData.eqv])]
      rw [decide_eq_false (fun h => h.elim (fun h => by omega) fun h => absurd h.2 (List.lt_irrefl _))]
      exact PyProof.Rows.lex_irrefl _
    · rw [W.dataLt_all_no (by simp [W.alike]) (by simp [PyData.eqv, e]), W.dataLt_str]
      simp
  · rw [W.dataLt_all_no (by simp [W.alike]) (by simp [PyData.eqv, h]), W.dataLt_int]
    simp [h]
/-- a comprehension with a test, by what holds of each item: kept or not, and what is made of it -/
theorem lcL_mapE {own : List Nat} {tg : Tg} {t : M Bool} {f : M O} {e : Sl} (h : D → D) (ds : List D) (hl : ds.length < 10000000)
    (hs : ∀ d ∈ ds, ∃ e1, tg.go d e = some e1 ∧ Ev (t e1) (fun b e2 => b = true ∧ Ev (f e2) (fun o e3 => o.d = h d ∧ wipeE e3 own = e) fun _ _ => False) fun _ _ => False) : lcL own tg t f ds [] e = some (ds.map h, e) :=
  lcL_map h ds hl fun d hd => by
    obtain ⟨e1, h1, h2⟩ := hs d hd
    obtain ⟨b, e2, h3, rfl, h4⟩ := h2.get
    obtain ⟨o, e3, h5, h6, h7⟩ := h4.get
    exact ⟨e1, e2, o, e3, h1, h3, h5, h6, h7⟩
theorem lcL_filtE {own : List Nat} {tg : Tg} {t : M Bool} {f : M O} {e : Sl} (p : D → Bool) (h : D → D) : ∀ (ds acc : List D), acc.length + ds.length < 10000000 →
    (∀ d ∈ ds, ∃ e1, tg.go d e = some e1 ∧ Ev (t e1) (fun b e2 => b = p d ∧ if p d = true then Ev (f e2) (fun o e3 => o.d = h d ∧ wipeE e3 own = e) fun _ _ => False else wipeE e2 own = e) fun _ _ => False) → lcL own tg t f ds acc e = some (acc ++ (ds.filter p).map h, e)
  | [], acc, _, _ => by simp [lcL]
  | d :: ds, acc, hl, hs => by
    obtain ⟨e1, h1, h2⟩ := hs d List.mem_cons_self
    obtain ⟨b, e2, h3, rfl, h4⟩ := h2.get
    have hz : acc.length < sizeLine := by rw [sizeLine_eq]; rw [List.length_cons] at hl; omega
    have hs' := fun d' h => hs d' (List.mem_cons_of_mem _ h)
    rw [List.length_cons] at hl
    cases hp : p d with
    | true =>
      rw [hp, if_pos rfl] at h4
      obtain ⟨o, e3, h5, h6, h7⟩ := h4.get
      have ih := lcL_filtE (own := own) (tg := tg) (t := t) (f := f) (e := e) p h ds (acc ++ [o.d]) (by rw [List.length_append]; simp only [List.length_cons, List.length_nil]; omega) hs'
      rw [h6] at ih
      simp [lcL, h1, h3, hp, h5, hz, h7, ih, h6]
    | false =>
      rw [hp, if_neg Bool.noConfusion] at h4
      have ih := lcL_filtE (own := own) (tg := tg) (t := t) (f := f) (e := e) p h ds acc (by omega) hs'
      simp [lcL, h1, h3, hp, h4, ih]
end Dn

namespace Dn
open PySem L2

/-! ## 26. The operations, case by case -/
section
variable {i j : Int} {a b z : Str} {p q : Bool} {ds es : List D} {ns : List Int} {d x y : D}
theorem gAdd_i : gAdd [.int i, .int j] = some (iO (i + j)) := nr rfl
theorem gAdd_z (h : a.length + b.length ≤ sizeLine) : gAdd [.str a, .str b] = some (sO (a ++ b)) := if_pos h
theorem gAdd_l (h : ds.length + es.length ≤ sizeLine) : gAdd [.lst ds, .lst es] = some (.lst (ds ++ es)) := if_pos h
theorem gAdd_t (h : ds.length + es.length ≤ sizeLine) : gAdd [.tup ds, .tup es] = some (.fr (.tup (ds ++ es))) := if_pos h
theorem gAddI_i : gAddI [.int i, .int j] = some (iO (i + j)) := nr rfl
theorem gSub_i : Dn.gSub [.int i, .int j] = some (iO (i - j)) := nr rfl
theorem gMul_i (h : mulOk i j = true) : gMul [.int i, .int j] = some (iO (i * j)) := if_pos h
theorem gDiv_i (h : j ≠ 0) (h' : j.natAbs < 1073741824) : gDiv [.int i, .int j] = some (iO (i.fdiv j)) := if_pos ⟨h, h'⟩
theorem gMod_i (h : j ≠ 0) : gMod [.int i, .int j] = some (iO (i.fmod j)) := if_pos h
theorem gPow_i (h : 0 ≤ j ∧ j ≤ 1000000 ∧ i.natAbs < 2 ^ 64) : gPow [.int i, .int j] = some (iO (i ^ j.toNat)) := if_pos h
theorem gNeg_i : gNeg [.int i] = some (iO (-i)) := nr rfl
theorem gEq_i : gEq [.int i, .int j] = some (bO (decide (i = j))) := nr rfl
theorem gEq_z : gEq [.str a, .str b] = some (bO (decide (a = b))) := nr rfl
theorem gEq_b : gEq [.bl p, .bl q] = some (bO (decide (p = q))) := nr rfl
theorem gNe_i : gNe [.int i, .int j] = some (bO (!decide (i = j))) := nr rfl
theorem gNe_z : gNe [.str a, .str b] = some (bO (!decide (a = b))) := nr rfl
theorem gNe_b : gNe [.bl p, .bl q] = some (bO (!decide (p = q))) := nr rfl
theorem gEq_l (h : shp (.lst ds) = true) (h' : shp y = true) : gEq [.lst ds, y] = some (bO (D.eqv (.lst ds) y)) := if_pos (by rw [h, h']; rfl)
theorem gEq_t (h : shp (.tup ds) = true) (h' : shp y = true) : gEq [.tup ds, y] = some (bO (D.eqv (.tup ds) y)) := if_pos (by rw [h, h']; rfl)
theorem gEq_s (h : shp (.scr ns) = true) (h' : shp y = true) : gEq [.scr ns, y] = some (bO (D.eqv (.scr ns) y)) := if_pos (by rw [h, h']; rfl)
theorem gEq_n (h' : shp y = true) : gEq [.non, y] = some (bO (D.eqv .non y)) := if_pos (by rw [h']; rfl)
theorem gNe_l (h : shp (.lst ds) = true) (h' : shp y = true) : gNe [.lst ds, y] = some (bO (!D.eqv (.lst ds) y)) := if_pos (by rw [h, h']; rfl)
theorem gNe_t (h : shp (.tup ds) = true) (h' : shp y = true) : gNe [.tup ds, y] = some (bO (!D.eqv (.tup ds) y)) := if_pos (by rw [h, h']; rfl)
theorem gNe_s (h : shp (.scr ns) = true) (h' : shp y = true) : gNe [.scr ns, y] = some (bO (!D.eqv (.scr ns) y)) := if_pos (by rw [h, h']; rfl)
theorem gNe_n (h' : shp y = true) : gNe [.non, y] = some (bO (!D.eqv .non y)) := if_pos (by rw [h']; rfl)
theorem gLt_i : gLt [.int i, .int j] = some (bO (decide (i < j))) := nr rfl
theorem gGt_i : gGt [.int i, .int j] = some (bO (decide (j < i))) := nr rfl
theorem gLe_i : gLe [.int i, .int j] = some (bO (decide (i ≤ j))) := nr rfl
theorem gGe_i : gGe [.int i, .int j] = some (bO (decide (j ≤ i))) := nr rfl
theorem gLt_t (h : ordOk (.tup ds) y = true) : gLt [.tup ds, y] = some (bO (W.dataLt (D.tup ds).py y.py)) := if_pos h
theorem gGt_t (h : ordOk (.tup ds) y = true) : gGt [.tup ds, y] = some (bO (W.dataLt y.py (D.tup ds).py)) := if_pos h
theorem gLe_t (h : ordOk (.tup ds) y = true) : gLe [.tup ds, y] = some (bO (!W.dataLt y.py (D.tup ds).py)) := if_pos h
theorem gGe_t (h : ordOk (.tup ds) y = true) : gGe [.tup ds, y] = some (bO (!W.dataLt (D.tup ds).py y.py)) := if_pos h
theorem gLt_l (h : ordOk (.lst ds) y = true) : gLt [.lst ds, y] = some (bO (W.dataLt (D.lst ds).py y.py)) := if_pos h
theorem gGt_l (h : ordOk (.lst ds) y = true) : gGt [.lst ds, y] = some (bO (W.dataLt y.py (D.lst ds).py)) := if_pos h
theorem gLe_l (h : ordOk (.lst ds) y = true) : gLe [.lst ds, y] = some (bO (!W.dataLt y.py (D.lst ds).py)) := if_pos h
theorem gGe_l (h : ordOk (.lst ds) y = true) : gGe [.lst ds, y] = some (bO (!W.dataLt (D.lst ds).py y.py)) := if_pos h
theorem ord_z : ordOk (.str a) (.str b) = true := by simp [ordOk, D.nx, D.py, W.alike, PyData.depth]
theorem gLt_z : gLt [.str a, .str b] = some (bO (decide (zl a < zl b))) := by
  show (if ordOk (.str a) (.str b) = true then some (bO (W.dataLt (D.str a).py (D.str b).py)) else none) = _
  rw [if_pos ord_z, D.py, D.py, W.dataLt_str]
theorem gGt_z : gGt [.str a, .str b] = some (bO (decide (zl b < zl a))) := by
  show (if ordOk (.str a) (.str b) = true then some (bO (W.dataLt (D.str b).py (D.str a).py)) else none) = _
  rw [if_pos ord_z, D.py, D.py, W.dataLt_str]
theorem gLe_z : gLe [.str a, .str b] = some (bO (!decide (zl b < zl a))) := by
  show (if ordOk (.str a) (.str b) = true then some (bO (!W.dataLt (D.str b).py (D.str a).py)) else none) = _
  rw [if_pos ord_z, D.py, D.py, W.dataLt_str]
theorem gGe_z : gGe [.str a, .str b] = some (bO (!decide (zl a < zl b))) := by
  show (if ordOk (.str a) (.str b) = true then some (bO (!W.dataLt (D.str a).py (D.str b).py)) else none) = _
  rw [if_pos ord_z, D.py, D.py, W.dataLt_str]
theorem gIsN_n : gIsN [.non, .non] = some (bO true) := nr rfl
theorem gIsN_b : gIsN [.bl p, .non] = some (bO false) := nr rfl
theorem gIsN_i : gIsN [.int i, .non] = some (bO false) := nr rfl
theorem gIsN_z : gIsN [.str a, .non] = some (bO false) := nr rfl
theorem gIsN_l : gIsN [.lst ds, .non] = some (bO false) := nr rfl
theorem gIsN_t : gIsN [.tup ds, .non] = some (bO false) := nr rfl
theorem gIsN_s : gIsN [.scr ns, .non] = some (bO false) := nr rfl
theorem gIsN_bb : gIsN [.bl p, .bl q] = some (bO (decide (p = q))) := nr rfl
theorem gNotN_n : gNotN [.non, .non] = some (bO false) := nr rfl
theorem gNotN_b : gNotN [.bl p, .non] = some (bO true) := nr rfl
theorem gNotN_i : gNotN [.int i, .non] = some (bO true) := nr rfl
theorem gNotN_z : gNotN [.str a, .non] = some (bO true) := nr rfl
theorem gNotN_l : gNotN [.lst ds, .non] = some (bO true) := nr rfl
theorem gNotN_t : gNotN [.tup ds, .non] = some (bO true) := nr rfl
theorem gNotN_s : gNotN [.scr ns, .non] = some (bO true) := nr rfl
theorem gNotN_bb : gNotN [.bl p, .bl q] = some (bO (!decide (p = q))) := nr rfl
theorem gIn_z : gIn [.str a, .str b] = some (bO (inStr a b)) := nr rfl
theorem gIn_l (h : shp x = true) (h' : shp (.lst ds) = true) : gIn [x, .lst ds] = some (bO (inL x ds)) := by
  have : (if (shp x && shp (.lst ds)) = true then some (bO (inL x ds)) else none) = some (bO (inL x ds)) := if_pos (by rw [h, h']; rfl)
  cases x <;> exact this
theorem gIn_t (h : shp x = true) (h' : shp (.tup ds) = true) : gIn [x, .tup ds] = some (bO (inL x ds)) := by
  have : (if (shp x && shp (.tup ds)) = true then some (bO (inL x ds)) else none) = some (bO (inL x ds)) := if_pos (by rw [h, h']; rfl)
  cases x <;> exact this
theorem gNotIn_z : gNotIn [.str a, .str b] = some (bO (!inStr a b)) := nr rfl
theorem gNotIn_l (h : shp x = true) (h' : shp (.lst ds) = true) : gNotIn [x, .lst ds] = some (bO (!inL x ds)) := by
  have : (if (shp x && shp (.lst ds)) = true then some (bO (!inL x ds)) else none) = some (bO (!inL x ds)) := if_pos (by rw [h, h']; rfl)
  cases x <;> exact this
theorem gNotIn_t (h : shp x = true) (h' : shp (.tup ds) = true) : gNotIn [x, .tup ds] = some (bO (!inL x ds)) := by
  have : (if (shp x && shp (.tup ds)) = true then some (bO (!inL x ds)) else none) = some (bO (!inL x ds)) := if_pos (by rw [h, h']; rfl)
  cases x <;> exact this
theorem gIx_l : gIx [.lst ds, .int i] = (atI ds i).map .fr := nr rfl
theorem gIx_t : gIx [.tup ds, .int i] = (atI ds i).map .fr := nr rfl
theorem gIx_s : gIx [.scr ns, .int i] = (atI ns i).map iO := nr rfl
theorem gIx_z (h : z.length ≤ sizeLine) : gIx [.str z, .int i] = (atI z.cps.toList i).map fun c => sO (one c) := if_pos h
theorem gLen_l : gLen [.lst ds] = some (iO ds.length) := nr rfl
theorem gLen_t : gLen [.tup ds] = some (iO ds.length) := nr rfl
theorem gLen_s : gLen [.scr ns] = some (iO ns.length) := nr rfl
theorem gLen_z (h : z.length ≤ sizeLine) : gLen [.str z] = some (iO z.length) := if_pos h
theorem gInt_i : gInt [.int i] = some (iO i) := nr rfl
theorem gInt_b : gInt [.bl p] = some (iO (if p then 1 else 0)) := nr rfl
theorem gAbs_i : gAbs [.int i] = some (iO (if i < 0 then -i else i)) := nr rfl
theorem gOrd_1 {c : Nat} : gOrd [.str (one c)] = some (iO (c : Int)) := nr rfl
theorem gList_l : gList [.lst ds] = some (.lst ds) := nr rfl
theorem gList_t : gList [.tup ds] = some (.lst ds) := nr rfl
theorem gList_s : gList [.scr ns] = some (.lst (ns.map .int)) := nr rfl
theorem gTuple_l : gTuple [.lst ds] = some (.fr (.tup ds)) := nr rfl
theorem gTuple_t : gTuple [.tup ds] = some (.fr (.tup ds)) := nr rfl
theorem gApp_q (h : ds.length < sizeLine) : gApp ds d = some (.non, ds ++ [d]) := if_pos h
theorem gPop_q : gPop ds = (ds[ds.length - 1]?).map fun y => (y, ds.dropLast) := nr rfl
theorem gPop0_q (h : -(2 ^ 63) ≤ i ∧ i < 2 ^ 63) : gPop0 ds (.int i) = (ixN ds.length i).bind fun k => (ds[k]?).map fun y => (y, ds.eraseIdx k) := if_pos h
theorem gExt_q (h : ds.length + es.length ≤ sizeLine) : gExt ds (.lst es) = some (.non, ds ++ es) := if_pos h
theorem gRev_q : gRev ds = some (.non, ds.reverse) := nr rfl
theorem gIsi_q {T : String} : gIsi T [d] = (isi T d).map bO := nr rfl
theorem gSl00 : gSl false false [d] = slD d none none := nr rfl
theorem gSl10 : gSl true false [d, .int i] = slD d (some i) none := nr rfl
theorem gSl01 : gSl false true [d, .int j] = slD d none (some j) := nr rfl
theorem gSl11 : gSl true true [d, .int i, .int j] = slD d (some i) (some j) := nr rfl
theorem slD_l {lo hi : Option Int} : slD (.lst ds) lo hi = some (.lst (cutD ds lo hi)) := nr rfl
theorem slD_t {lo hi : Option Int} : slD (.tup ds) lo hi = some (.fr (.tup (cutD ds lo hi))) := nr rfl
theorem slD_s {lo hi : Option Int} : slD (.scr ns) lo hi = some (.lst ((cutD ns lo hi).map .int)) := nr rfl
theorem slD_z {lo hi : Option Int} (h : z.length ≤ sizeLine) : slD (.str z) lo hi = some (sO (cutS z lo hi)) := if_pos h
theorem gRevS_l : gRevS [.lst ds] = some (.lst ds.reverse) := nr rfl
theorem gCount_z : gCount [.str a, .str b] = some (iO (Txt.count a b)) := nr rfl
theorem gStarts_z : gStarts [.str a, .str b] = some (bO (Txt.startswith a b)) := nr rfl
theorem gRstrip_z (h : a.length ≤ sizeLine) : gRstrip [.str a, .str b] = some (sO (Txt.rstripChars a b)) := if_pos h
theorem seqD_l : seqD (.lst ds) = some ds := nr rfl
theorem seqD_t : seqD (.tup ds) = some ds := nr rfl
theorem seqD_s : seqD (.scr ns) = some (ns.map .int) := nr rfl
theorem seqD_z : seqD (.str z) = some (signs z) := nr rfl
def rgR1 (ds : List D) (e : Sl) : Option (Ro (List D)) := match ds with
    | [.int j] => if inR j = true then some (.ok (rngD 0 j) e) else none
    | _ => none
def rgR2 (ds : List D) (e : Sl) : Option (Ro (List D)) := match ds with
    | [.int i, .int j] => if (inR i && inR j) = true then some (.ok (rngD i j) e) else none
    | _ => none
theorem sRng1_e (p : P) (e : Sl) : sRng1 p e = @thn' _ _ (ops [p] e) ⟨fun ds e' => rgR1 ds e'⟩ := nr rfl
theorem sRng2_e (p q : P) (e : Sl) : sRng2 p q e = @thn' _ _ (ops [p, q] e) ⟨fun ds e' => rgR2 ds e'⟩ := nr rfl
theorem rgR1_q {e : Sl} (h : inR j = true) : rgR1 [.int j] e = some (.ok (rngD 0 j) e) := if_pos h
theorem rgR2_q {e : Sl} (h : inR i = true) (h' : inR j = true) : rgR2 [.int i, .int j] e = some (.ok (rngD i j) e) := if_pos (by rw [h, h']; rfl)
theorem inR_len {α : Type} {l : List α} (h : l.length ≤ 10000000) : inR (l.length : Int) = true := by unfold inR; exact decide_eq_true ⟨by omega, by omega⟩
theorem rng0_get {hi : Int} {i : Nat} {d : D} (h : (rngD 0 hi)[i]? = some d) : d = .int i ∧ (i : Int) < hi := by
  obtain ⟨h1, h2⟩ := rngD_get h
  rw [Int.zero_add] at h1
  exact ⟨h1, by omega⟩
theorem rng0_len {n : Nat} : (rngD 0 (n : Int)).length = n := by rw [rngD_len]; omega
/-- short texts: the library's limit, told as a limit of ours -/
theorem sz_of (h : z.length ≤ 10000000) : z.length ≤ sizeLine := by rw [sl_val]; omega
theorem sz_lit {c : Nat} : (one c).length ≤ sizeLine := by rw [sl_val]; show 1 ≤ 16777216; omega
theorem sz2_of (h : a.length + b.length ≤ 10000000) : a.length + b.length ≤ sizeLine := by rw [sl_val]; omega
theorem szl_of (h : ds.length + es.length ≤ 10000000) : ds.length + es.length ≤ sizeLine := by rw [sl_val]; omega
theorem szl1_of' {n : Nat} (h : n < 10000000) : n < sizeLine := by rw [sl_val]; omega
theorem szl1_of (h : ds.length < 10000000) : ds.length < sizeLine := by rw [sl_val]; omega
end
end Dn

namespace Dn
open PySem L2

/-! ## 27. Loops by what is done -/
/-- a for: I of the part that is done -/
theorem Ev_forP {α : Type} {f : α → D} {tg : Tg} {body : M Fl} {X : Exn → Sl → Prop} (I : List α → Sl → Prop) (Q : Fl → Sl → Prop) : ∀ (xs done : List α) (e : Sl), I done e →
    (∀ (pre : List α) (x : α) (post : List α) (e : Sl), done ++ xs = pre ++ x :: post → I pre e → ∃ e1, tg.go (f x) e = some e1 ∧ Ev (body e1) (fun fl e2 => match fl with
      | .next => I (pre ++ [x]) e2
      | .cnt => I (pre ++ [x]) e2
      | .brk => Q .next e2
      | .ret o => Q (.ret o) e2) X) → (∀ e, I (done ++ xs) e → Q .next e) →
    Ev (forL tg body (xs.map f) e) Q X
  | [], done, e, h0, _, hq => hq e (by rw [List.append_nil]; exact h0)
  | x :: xs, done, e, h0, hs, hq => by
    obtain ⟨e1, h1, h2⟩ := hs done x xs e rfl h0
    unfold Ev EvC at h2
    rw [List.map_cons]
    unfold forL
    rw [h1]
    dsimp only
    have e3 : done ++ [x] ++ xs = done ++ x :: xs := by rw [List.append_assoc]; rfl
    cases h3 : body e1 with
    | none => rw [h3] at h2; exact h2.elim
    | some r =>
      rw [h3] at h2
      cases r with
      | ex x e2 => exact h2
      | ok fl e2 =>
        cases fl with
        | next => exact Ev_forP I Q xs (done ++ [x]) e2 h2 (fun pre y post e he => hs pre y post e (by rw [← e3]; exact he)) (fun e he => hq e (by rw [← e3]; exact he))
        | cnt => exact Ev_forP I Q xs (done ++ [x]) e2 h2 (fun pre y post e he => hs pre y post e (by rw [← e3]; exact he)) (fun e he => hq e (by rw [← e3]; exact he))
        | brk => exact h2
        | ret o => exact h2
/-- over the signs of a text -/
theorem signs_map (z : Str) : signs z = (zl z).map fun c => D.str (one c) := rfl
theorem Ev_forZ {z : Str} {tg : Tg} {body : M Fl} {X : Exn → Sl → Prop} {e : Sl} (I : List Nat → Sl → Prop) (Q : Fl → Sl → Prop) (h0 : I [] e)
    (hs : ∀ (pre : List Nat) (c : Nat) (post : List Nat) (e : Sl), zl z = pre ++ c :: post → I pre e → ∃ e1, tg.go (.str (one c)) e = some e1 ∧ Ev (body e1) (fun fl e2 => match fl with
      | .next => I (pre ++ [c]) e2
      | .cnt => I (pre ++ [c]) e2
      | .brk => Q .next e2
      | .ret o => Q (.ret o) e2) X) (hq : ∀ e, I (zl z) e → Q .next e) : Ev (forL tg body (signs z) e) Q X :=
  Ev_forP (f := fun c => D.str (one c)) I Q (zl z) [] e h0 (fun pre x post e he => hs pre x post e he) hq
theorem mem_mid {α : Type} {pre post xs : List α} {x : α} (h : xs = pre ++ x :: post) : x ∈ xs := by rw [h]; exact List.mem_append_right _ List.mem_cons_self
/-- a remainder as both languages have it -/
theorem fm_bd {x m : Int} (h : 0 < m) : 0 ≤ x.fmod m ∧ x.fmod m < m := by rw [fmod_pos h]; exact ⟨mod_ge h, mod_lt h⟩
end Dn

namespace Dn
open PySem L2

/-! ## 28. Data side by side -/
/-- data no deeper than k that the library can lay side by side -/
def Shp (k : Nat) (d : D) : Prop := d.py.canLay0 = true ∧ d.py.depth ≤ k
theorem Shp.shp {k : Nat} {d : D} (h : Shp k d) (hk : k ≤ 64) : shp d = true := by
  unfold Dn.shp SeqAt.shaped
  rw [h.1, decide_eq_true (Nat.le_trans h.2 hk)]; rfl
theorem Shp.mono {k j : Nat} {d : D} (h : Shp k d) (hk : k ≤ j) : Shp j d := ⟨h.1, Nat.le_trans h.2 hk⟩
theorem shp_non : Shp 0 .non := ⟨by rw [D.py]; simp [PyData.canLay0], by rw [D.py]; simp [PyData.depth]⟩
theorem shp_bl (b : Bool) : Shp 0 (.bl b) := ⟨by rw [D.py]; simp [PyData.canLay0], by rw [D.py]; simp [PyData.depth]⟩
theorem shp_int (i : Int) : Shp 0 (.int i) := ⟨by rw [D.py]; simp [PyData.canLay0], by rw [D.py]; simp [PyData.depth]⟩
theorem Shps {k : Nat} : ∀ {ds : List D}, (∀ d ∈ ds, Shp k d) → PyData.canLayAll0 (D.pys ds) = true ∧ PyData.depthAll (D.pys ds) ≤ k
  | [], _ => by rw [D.pys]; simp [PyData.canLayAll0, PyData.depthAll]
  | d :: ds, h => by
    have h1 := h d List.mem_cons_self
    have h2 := Shps fun d' hd => h d' (List.mem_cons_of_mem _ hd)
    rw [D.pys, PyData.canLayAll0, PyData.depthAll, h1.1, h2.1]
    exact ⟨rfl, Nat.max_le.mpr ⟨h1.2, h2.2⟩⟩
theorem shp_lst {k : Nat} {ds : List D} (h : ∀ d ∈ ds, Shp k d) : Shp (k + 1) (.lst ds) := by
  have := Shps h
  refine ⟨by rw [D.py, PyData.canLay0]; exact this.1, by rw [D.py, PyData.depth]; exact Nat.succ_le_succ this.2⟩
theorem shp_tup {k : Nat} {ds : List D} (h : ∀ d ∈ ds, Shp k d) : Shp (k + 1) (.tup ds) := by
  have := Shps h
  refine ⟨by rw [D.py, PyData.canLay0]; exact this.1, by rw [D.py, PyData.depth]; exact Nat.succ_le_succ this.2⟩
theorem shp_str {z : Str} (h : ∀ c ∈ zl z, c < 1114112) : Shp 0 (.str z) := by
  refine ⟨?_, by rw [D.py]; simp [PyData.depth]⟩
  rw [D.py, PyData.canLay0]
  show z.cps.all (· < 0x110000) = true
  rw [← Array.all_toList]
  exact List.all_eq_true.mpr fun c hc => decide_eq_true (h c hc)
theorem eqv_i (i j : Int) : D.eqv (.int i) (.int j) = decide (i = j) := by
  unfold D.eqv; rw [D.py, D.py, PyData.eqv]
  by_cases h : i = j <;> simp [h]
theorem eqv_z (a b : Str) : D.eqv (.str a) (.str b) = decide (a = b) := by
  unfold D.eqv; rw [D.py, D.py, PyData.eqv]
  by_cases h : a = b <;> simp [h]
theorem eqv_nn : D.eqv .non .non = true := by
  unfold D.eqv; rw [D.py]; simp [PyData.eqv]
/-- whole numbers from nought on, as data -/
def nl (ks : List Nat) : List D := ks.map fun (k : Nat) => D.int (k : Int)
theorem nl_app (a b : List Nat) : nl (a ++ b) = nl a ++ nl b := List.map_append
theorem nl_len (a : List Nat) : (nl a).length = a.length := List.length_map _
theorem shp_nl (ks : List Nat) : ∀ d ∈ nl ks, Shp 0 d := fun d hd => by
  obtain ⟨k, _, rfl⟩ := List.mem_map.mp hd
  exact shp_int _
theorem shp_nl_l (ks : List Nat) : shp (.lst (nl ks)) = true := (shp_lst (shp_nl ks)).shp (by omega)
theorem shp_nl_t (ks : List Nat) : shp (.tup (nl ks)) = true := (shp_tup (shp_nl ks)).shp (by omega)
theorem shp_i (i : Int) : shp (.int i) = true := (shp_int i).shp (by omega)
theorem inL_nl (i : Int) (ks : List Nat) : inL (.int i) (nl ks) = decide (∃ k ∈ ks, (k : Int) = i) := by
  unfold inL nl
  rw [List.any_map]
  by_cases h : ∃ k ∈ ks, (k : Int) = i
  · rw [decide_eq_true h]
    obtain ⟨k, hk, e⟩ := h
    exact List.any_eq_true.mpr ⟨k, hk, by show D.eqv _ _ = true; rw [eqv_i]; exact decide_eq_true e⟩
  · rw [decide_eq_false h]
    refine List.any_eq_false.mpr fun k hk => ?_
    show ¬ D.eqv _ _ = true
    rw [eqv_i]
    simp only [decide_eq_true_eq]
    exact fun e => h ⟨k, hk, e⟩
theorem inL_nat (n : Nat) (ks : List Nat) : inL (.int (n : Int)) (nl ks) = decide (n ∈ ks) := by
  rw [inL_nl]
  by_cases h : n ∈ ks
  · rw [decide_eq_true h, decide_eq_true ⟨n, h, rfl⟩]
  · rw [decide_eq_false h, decide_eq_false]
    rintro ⟨k, hk, e⟩
    have : k = n := by omega
    exact h (this ▸ hk)
mutual
def D.pl : D → Bool
  | .non => true
  | .bl _ => false
  | .int _ => true
  | .str _ => true
  | .lst xs => D.pls xs
  | .tup xs => D.pls xs
  | .scr _ => false
  | .opq => false
  | .dct _ _ => false
  | .ins _ _ _ => false
def D.pls : List D → Bool
  | [] => true
  | x :: xs => D.pl x && D.pls xs
end
mutual
theorem D.eqv_same : ∀ {a b : D}, a.pl = true → b.pl = true → (D.eqv a b = true ↔ a = b)
  | .non, b, _, hb => by
    cases b <;> first | (exact absurd hb Bool.noConfusion) | (unfold D.eqv; rw [D.py]; rw [D.py]; simp [PyData.eqv]) | (unfold D.eqv; rw [D.py]; simp [PyData.eqv])
  | .int i, b, _, hb => by
    cases b <;> first | (exact absurd hb Bool.noConfusion) | (unfold D.eqv; rw [D.py]; rw [D.py]; simp [PyData.eqv])
  | .str i, b, _, hb => by
    cases b <;> first | (exact absurd hb Bool.noConfusion) | (unfold D.eqv; rw [D.py]; rw [D.py]; simp [PyData.eqv])
  | .lst xs, b, ha, hb => by
    cases b with
    | bl _ => exact absurd hb Bool.noConfusion
    | scr _ => exact absurd hb Bool.noConfusion
    | opq => exact absurd hb Bool.noConfusion
    | dct _ _ => exact absurd hb Bool.noConfusion
    | ins _ _ _ => exact absurd hb Bool.noConfusion
    | lst ys =>
      unfold D.eqv; rw [D.py, D.py, PyData.eqv]
      rw [D.eqvs_same (show D.pls xs = true by rw [D.pl] at ha; exact ha) (show D.pls ys = true by rw [D.pl] at hb; exact hb)]
      simp
    | _ => unfold D.eqv; rw [D.py]; rw [D.py]; simp [PyData.eqv]
  | .tup xs, b, ha, hb => by
    cases b with
    | bl _ => exact absurd hb Bool.noConfusion
    | scr _ => exact absurd hb Bool.noConfusion
    | opq => exact absurd hb Bool.noConfusion
    | dct _ _ => exact absurd hb Bool.noConfusion
    | ins _ _ _ => exact absurd hb Bool.noConfusion
    | tup ys =>
      unfold D.eqv; rw [D.py, D.py, PyData.eqv]
      rw [D.eqvs_same (show D.pls xs = true by rw [D.pl] at ha; exact ha) (show D.pls ys = true by rw [D.pl] at hb; exact hb)]
      simp
    | _ => unfold D.eqv; rw [D.py]; rw [D.py]; simp [PyData.eqv]
  | .bl _, _, ha, _ => absurd ha Bool.noConfusion
  | .scr _, _, ha, _ => absurd ha Bool.noConfusion
  | .opq, _, ha, _ => absurd ha Bool.noConfusion
  | .dct _ _, _, ha, _ => absurd ha Bool.noConfusion
  | .ins _ _ _, _, ha, _ => absurd ha Bool.noConfusion
theorem D.eqvs_same : ∀ {as bs : List D}, D.pls as = true → D.pls bs = true → (PyData.eqvAll (D.pys as) (D.pys bs) = true ↔ as = bs)
  | [], [], _, _ => by rw [D.pys]; simp [PyData.eqvAll]
  | [], b :: bs, _, _ => by rw [D.pys, D.pys]; simp [PyData.eqvAll]
  | a :: as, [], _, _ => by rw [D.pys, D.pys]; simp [PyData.eqvAll]
  | a :: as, b :: bs, ha, hb => by
    rw [D.pls, Bool.and_eq_true] at ha hb
    rw [D.pys, D.pys, PyData.eqvAll, Bool.and_eq_true, List.cons.injEq]
    exact and_congr (D.eqv_same ha.1 hb.1) (D.eqvs_same ha.2 hb.2)
end
theorem D.pls_of {ds : List D} (h : ∀ d ∈ ds, d.pl = true) : D.pls ds = true := by
  induction ds with
  | nil => rw [D.pls]
  | cons d ds ih => rw [D.pls, h d List.mem_cons_self, ih fun x hx => h x (List.mem_cons_of_mem _ hx)]; rfl
theorem inL_pl {x : D} {ds : List D} (hx : x.pl = true) (hs : ∀ d ∈ ds, d.pl = true) : inL x ds = true ↔ x ∈ ds := by
  unfold inL
  rw [List.any_eq_true]
  exact ⟨fun ⟨y, hy, e⟩ => (D.eqv_same (hs y hy) hx).mp e ▸ hy, fun h => ⟨x, h, (D.eqv_same hx hx).mpr rfl⟩⟩
theorem inL_no {x : D} {ds : List D} (hx : x.pl = true) (hs : ∀ d ∈ ds, d.pl = true) (h : x ∉ ds) : inL x ds = false := Bool.eq_false_iff.mpr fun z => h ((inL_pl hx hs).mp z)
end Dn

namespace Dn
open PySem L2
open Evl (Ex)

/-! ## 29. A text times a number -/
def gMulS : List D → Option O
  | [.str a, .int n] => if 0 ≤ n ∧ n ≤ 100000 ∧ a.length ≤ 100 then some (sO (Txt.mul a n)) else none
  | _ => none
def rMulS : R2 := fun x y H Q => ∃ a n, x = .str a ∧ y = .int n ∧ MulOk a n ∧ Q (.str (Txt.mul a n)) H
theorem o_mulS {X : Cx} : OpR X (binaryOp .Mult) rMulS := by
  intro pins s σ H x y v u Q I rx ry h
  obtain ⟨i, j, rfl, rfl, hz, q⟩ := h
  obtain ⟨t, rfl⟩ := rx
  obtain ⟨t', rfl⟩ := ry
  exact SB.mul hz (fun t' k => ⟨.str (Txt.mul i j), H, I.tok _, ⟨_, rfl⟩, q⟩)
theorem mulS_ok {a : Str} {n : Int} (h0 : 0 ≤ n) (h1 : n ≤ 100000) (h2 : a.length ≤ 100) : MulOk a n := by
  refine ⟨?_, fun hn _ => ?_, fun _ _ => ?_⟩
  · rw [decide_eq_false (by omega), decide_eq_false (by omega)]; rfl
  · have : (100 : Int) ≤ (2 ^ 63 - 1) / n := (Int.le_ediv_iff_mul_le (by omega)).mpr (by omega)
    omega
  · show decide (a.length * n.toNat > sizeLine) = false
    rw [sl_val]
    refine decide_eq_false ?_
    have h3 : n.toNat ≤ 100000 := by omega
    have := Nat.mul_le_mul h2 h3
    omega
theorem n_mulS {K : PySem.W.Frag} : Snd2 K rMulS gMulS := fun B H x y a b o hx ha hb hg Q q => by
  cases a <;> cases b <;> simp only [gMulS] at hg <;> (try cases hg)
  split at hg
  · rename_i hc
    cases hg; cases ha; cases hb
    exact ⟨_, _, rfl, rfl, mulS_ok hc.1 hc.2.1 hc.2.2, q.fr hx (.str _)⟩
  · cases hg
theorem gMulS_q {a : Str} {n : Int} (h : 0 ≤ n ∧ n ≤ 100000 ∧ a.length ≤ 100) : gMulS [.str a, .int n] = some (sO (Txt.mul a n)) := if_pos h
theorem zl_mul1 (c : Nat) (n : Int) : zl (Txt.mul (one c) n) = List.replicate n.toNat c := PyProof.Rows.mul_one_list c n
theorem len_mul1 (c : Nat) (n : Int) : (Txt.mul (one c) n).length = n.toNat := by rw [len_zl, zl_mul1, List.length_replicate]
end Dn


/-! ## 30. Order that looks at the first difference alone -/
namespace Dn.Fd
open PySem PySem.SeqAt
open PySem.AutoSeq1 (wpAny_loadPart')
open PySem.MeetsSeq PySem.MeetsSeq2 PySem.MeetsSeq3
open PySem.SeqRoads2

/-- what is known of two rows: whether each pair is equal, and at the first pair that is not, how it compares -/
structure Pairs (A : Around) (s : Shared) (p q : Array Value) (eq lt : Nat → Bool) : Prop where
  same : ∀ k (kp : k < p.size) (kq : k < q.size), EqAt A s p[k] q[k] (eq k)
  less : ∀ k (kp : k < p.size) (kq : k < q.size), (∀ m, m < k → eq m = true) → eq k = false → RcLt A s p[k] q[k] (lt k)
/-- the answer from place k on -/
def ansAt (eq lt : Nat → Bool) (z : Bool) : Nat → Nat → Bool
  | _, 0 => z
  | k, left + 1 => if eq k = true then ansAt eq lt z (k + 1) left else lt k
theorem tupMeets (u v : Addr) (p q : Array Value) (c c2 : Nat) (e1 e2 : Option Addr) (o1 o2 : Array (Option Value)) (eq lt : Nat → Bool) :
    Meets (Builtin.«tuple.__lt__» ⟨[.ref u, .ref v], []⟩) (fun A R s =>
      s.heap.get? u = some ⟨.type "tuple", e1, .seq p c, o1⟩ ∧ s.heap.get? v = some ⟨.type "tuple", e2, .seq q c2, o2⟩ ∧ Pairs A.in1 s p q eq lt ∧
      R (.ok (.ret (.bool (ansAt eq lt (decide (p.size < q.size)) 0 (min p.size q.size))))) s) := .of_wp fun prog w A R s given => by
  obtain ⟨hp, g, d, tk, os⟩ := s
  obtain ⟨gu, gv, pr, fin⟩ := given
  have sub := AutoSeq1.sub_tuple_tuple
  have zl : (p.toList.zip q.toList).length = min p.size q.size := by simp
  wp_walk using wpAny_loadPart' gu, wpAny_loadPart' gv, wpAny_forIn_list _ (fun todo acc s' => acc.1 = none ∧ s' = ⟨hp, g, d, tk, os⟩ ∧ ∃ k, todo = (p.toList.zip q.toList).drop k ∧ (∀ m, m < k → eq m = true) ∧
    R (.ok (.ret (.bool (ansAt eq lt (decide (p.size < q.size)) k (min p.size q.size - k))))) ⟨hp, g, d, tk, os⟩) _
  case turn =>
    rintro ⟨a, b⟩ todo acc s' ⟨ha, rfl, k, hk, before, an⟩
    have kl : k < (p.toList.zip q.toList).length := Nat.lt_of_not_le fun h => by rw [List.drop_of_length_le h] at hk; cases hk
    have km : k < min p.size q.size := zl ▸ kl
    have kp : k < p.size := by omega
    have kq : k < q.size := by omega
    rw [List.drop_eq_getElem_cons kl] at hk
    injection hk with hd tl
    obtain ⟨rfl, rfl⟩ : a = p[k] ∧ b = q[k] := by
      constructor
      · simpa using congrArg Prod.fst hd
      · simpa using congrArg Prod.snd hd
    rw [show min p.size q.size - k = (min p.size q.size - (k + 1)) + 1 by omega, ansAt] at an
    refine wpAny_bind (pr.same k kp kq prog w _ _ ?_)
    cases h : eq k with
    | true =>
      rw [h, if_pos rfl] at an
      have before2 : ∀ m, m < k + 1 → eq m = true := fun m hm => (Nat.lt_succ_iff_lt_or_eq.mp hm).elim (before m) fun e => e ▸ h
      wp_walk
      exact ⟨rfl, rfl, k + 1, tl, before2, an⟩
    | false =>
      rw [h, if_neg Bool.false_ne_true] at an
      have now := pr.less k kp kq before h prog w
      wp_walk using now
      exact ⟨_, rfl, by simpa using an⟩
  case fin =>
    rintro ⟨a, b⟩ s' ⟨ha, rfl, k, hk, before, an⟩
    simp only at ha
    subst ha
    have done : min p.size q.size - k = 0 := by
      have : ¬ k < (p.toList.zip q.toList).length := fun h => by rw [List.drop_eq_getElem_cons h] at hk; cases hk
      omega
    rw [done, ansAt] at an
    wp_walk
    exact ⟨_, rfl, by simpa [Builtin.Tuple.tupleCompareSizes] using an⟩
  case h => exact ⟨rfl, rfl, 0, rfl, fun m hm => absurd hm (Nat.not_lt_zero _), by simpa using fin⟩
theorem loopMeets (u v : Addr) (p q : Array Value) (c c2 : Nat) (e1 e2 : Option Addr) (o1 o2 : Array (Option Value)) (eq lt : Nat → Bool) : ∀ left k : Nat, min p.size q.size - k = left → (∀ m, m < k → eq m = true) →
    Meets (Builtin.«list.__eq__.loop» ⟨[.ref u, .ref v, rawInt k, rawInt 0], []⟩) (fun A R s =>
      s.heap.get? u = some ⟨.type "list", e1, .seq p c, o1⟩ ∧ s.heap.get? v = some ⟨.type "list", e2, .seq q c2, o2⟩ ∧ Pairs A.in1 s p q eq lt ∧
      R (.ok (.ret (.bool (ansAt eq lt (decide (p.size < q.size)) k left)))) s)
  | 0, k, hk, before => fun prog w A R s given => by
    obtain ⟨hp, g, d, tk, os⟩ := s
    obtain ⟨gu, gv, pr, fin⟩ := given
    rw [ansAt] at fin
    wp_walk using wpAny_loadPart' gu, wpAny_loadPart' gv
    by_cases hs : p.size ≤ k
    · have n1 : p[((k : Nat) : Int).toNat]? = none := by simp; omega
      rw [n1]
      wp_walk using wpAny_loadPart' gu, wpAny_loadPart' gv
      exact fin
    · have kp : k < p.size := by omega
      have n1 : p[((k : Nat) : Int).toNat]? = some p[k] := by simp [kp]
      have n2 : q[((k : Nat) : Int).toNat]? = none := by simp; omega
      rw [n1, n2]
      wp_walk using wpAny_loadPart' gu, wpAny_loadPart' gv
      exact fin
  | left + 1, k, hk, before => fun prog w A R s given => by
    have ih := loopMeets u v p q c c2 e1 e2 o1 o2 eq lt left (k + 1) (by omega)
    obtain ⟨hp, g, d, tk, os⟩ := s
    obtain ⟨gu, gv, pr, fin⟩ := given
    rw [ansAt] at fin
    wp_walk using wpAny_loadPart' gu, wpAny_loadPart' gv
    have kp : k < p.size := by omega
    have kq : k < q.size := by omega
    have n1 : p[((k : Nat) : Int).toNat]? = some p[k] := by simp [kp]
    have n2 : q[((k : Nat) : Int).toNat]? = some q[k] := by simp [kq]
    have up : ((k : Int) + 1) = ((k + 1 : Nat) : Int) := by push_cast; rfl
    rw [n1, n2]
    refine wpAny_bind (pr.same k kp kq prog w _ _ ?_)
    cases h : eq k with
    | true =>
      rw [h, if_pos rfl] at fin
      have before2 : ∀ m, m < k + 1 → eq m = true := fun m hm => (Nat.lt_succ_iff_lt_or_eq.mp hm).elim (before m) fun e => e ▸ h
      wp_walk
      rw [up]
      refine ⟨plainId_quiet plain_eq_loop _, codeAny_builtin entry_eq_loop ?_⟩
      rw [Around.under_plainId plain_eq_loop _]
      exact ih before2 prog w A R _ ⟨gu, gv, pr, fin⟩
    | false =>
      rw [h, if_neg Bool.false_ne_true] at fin
      wp_walk using wpAny_loadPart' gu, wpAny_loadPart' gv
      rw [n1, n2]
      have now := pr.less k kp kq before h prog w
      wp_walk using now
      exact fin
theorem lstMeets (u v : Addr) (p q : Array Value) (c c2 : Nat) (e1 e2 : Option Addr) (o1 o2 : Array (Option Value)) (eq lt : Nat → Bool) :
    Meets (Builtin.«list.__lt__» ⟨[.ref u, .ref v], []⟩) (fun A R s =>
      s.heap.get? u = some ⟨.type "list", e1, .seq p c, o1⟩ ∧ s.heap.get? v = some ⟨.type "list", e2, .seq q c2, o2⟩ ∧ Pairs A.in1 s p q eq lt ∧
      R (.ok (.ret (.bool (ansAt eq lt (decide (p.size < q.size)) 0 (min p.size q.size))))) s) := fun prog w A R s given => by
  obtain ⟨hp, g, d, tk, os⟩ := s
  obtain ⟨gu, gv, pr, fin⟩ := given
  have sub := AutoSeq1.sub_list_list
  wp_walk using wpAny_loadPart' gu, wpAny_loadPart' gv
  refine ⟨plainId_quiet plain_eq_loop _, codeAny_builtin entry_eq_loop ?_⟩
  rw [Around.under_plainId plain_eq_loop _]
  exact loopMeets u v p q c c2 e1 e2 o1 o2 eq lt _ 0 rfl (fun m hm => absurd hm (Nat.not_lt_zero _)) prog w A R _ ⟨gu, gv, pr, by simpa using fin⟩
section
variable {A : Around} {s : Shared} {u v : Addr} {p q : Array Value} {eq lt : Nat → Bool}
theorem tupLt (hu : s.heap.IsTuple u p) (hv : s.heap.IsTuple v q) (room : A.units < cLine) (pr : Pairs A.in1 s p q eq lt) : RcLt A s (.ref u) (.ref v) (ansAt eq lt (decide (p.size < q.size)) 0 (min p.size q.size)) := fun prog w E Q h => by
  obtain ⟨⟨k1, e1, d1, o1⟩, g1, t1, c1, s1⟩ := id hu
  obtain ⟨⟨k2, e2, d2, o2⟩, g2, t2, c2, s2⟩ := id hv
  simp only at t1 s1 t2 s2
  subst t1 s1 t2 s2
  refine richCompare_meets_room (op := .Lt) ⟨_, g1, rfl⟩ ⟨_, g2, rfl⟩ F.slot_tuple_lt F.entry_tuple_lt (F.args_tuple_lt_2 _ _) (tupMeets u v p q c1 c2 e1 e2 o1 o2 eq lt) ⟨g1, g2, pr, ?_⟩ room
  exact (show Value.bool _ ≠ Value.notImplemented ∧ _ from ⟨(fun x => nomatch x), h⟩)
theorem lstLt (hu : s.heap.IsList u p) (hv : s.heap.IsList v q) (room : A.units < cLine) (pr : Pairs A.in1 s p q eq lt) : RcLt A s (.ref u) (.ref v) (ansAt eq lt (decide (p.size < q.size)) 0 (min p.size q.size)) := fun prog w E Q h => by
  obtain ⟨⟨k1, e1, d1, o1⟩, g1, t1, c1, s1⟩ := id hu
  obtain ⟨⟨k2, e2, d2, o2⟩, g2, t2, c2, s2⟩ := id hv
  simp only at t1 s1 t2 s2
  subst t1 s1 t2 s2
  refine richCompare_meets_room (op := .Lt) ⟨_, g1, rfl⟩ ⟨_, g2, rfl⟩ F.slot_list_lt F.entry_list_lt (F.args_list_lt_2 _ _) (lstMeets u v p q c1 c2 e1 e2 o1 o2 eq lt) ⟨g1, g2, pr, ?_⟩ room
  exact (show Value.bool _ ≠ Value.notImplemented ∧ _ from ⟨(fun x => nomatch x), h⟩)
end
end Dn.Fd

namespace Dn
open PySem L2
open Evl (Ex)
open PySem.SeqAt
/-! the order of data, by the first difference -/
mutual
/-- x < y, at the first difference -/
def ltD : PyData → PyData → Bool
  | .int x, .int y => decide (x < y)
  | .str x, .str y => decide (x.cps.toList < y.cps.toList)
  | .bool x, .bool y => W.dataLt (.bool x) (.bool y)
  | .list xs, .list ys => ltDs xs ys
  | .tuple xs, .tuple ys => ltDs xs ys
  | _, _ => false
def ltDs : List PyData → List PyData → Bool
  | [], [] => false
  | [], _ :: _ => true
  | _ :: _, [] => false
  | x :: xs, y :: ys => if PyData.eqv x y = true then ltDs xs ys else ltD x y
end
mutual
/-- the first difference is one that < can tell -/
def cmpD : PyData → PyData → Bool
  | .int _, .int _ => true
  | .str _, .str _ => true
  | .bool _, .bool _ => true
  | .list xs, .list ys => cmpDs xs ys
  | .tuple xs, .tuple ys => cmpDs xs ys
  | _, _ => false
def cmpDs : List PyData → List PyData → Bool
  | x :: xs, y :: ys => if PyData.eqv x y = true then cmpDs xs ys else cmpD x y
  | _, _ => true
end
theorem ansAt_shift (eq lt : Nat → Bool) (z : Bool) : ∀ left k, Fd.ansAt eq lt z (k + 1) left = Fd.ansAt (fun i => eq (i + 1)) (fun i => lt (i + 1)) z k left
  | 0, k => rfl
  | left + 1, k => by
    rw [Fd.ansAt, Fd.ansAt, ansAt_shift eq lt z left (k + 1)]
theorem ansAt_ltDs : ∀ xs ys : List PyData, Fd.ansAt (fun j => PyData.eqv (xs.getD j .none) (ys.getD j .none)) (fun j => ltD (xs.getD j .none) (ys.getD j .none)) (decide (xs.length < ys.length)) 0 (min xs.length ys.length) = ltDs xs ys
  | [], [] => by simp [Fd.ansAt, ltDs]
  | [], y :: ys => by simp [Fd.ansAt, ltDs]
  | x :: xs, [] => by simp [Fd.ansAt, ltDs]
  | x :: xs, y :: ys => by
    have ih := ansAt_ltDs xs ys
    rw [show min (x :: xs).length (y :: ys).length = min xs.length ys.length + 1 by rw [List.length_cons, List.length_cons]; omega, Fd.ansAt, ansAt_shift]
    rw [ltDs]
    show (if PyData.eqv x y = true then _ else ltD x y) = _
    have e : decide ((x :: xs).length < (y :: ys).length) = decide (xs.length < ys.length) := by simp
    rw [e]
    by_cases h : PyData.eqv x y = true
    · rw [if_pos h, if_pos h, ← ih]; rfl
    · rw [if_neg h, if_neg h]
theorem cmpDs_cons {x y : PyData} {xs ys : List PyData} (h : cmpDs (x :: xs) (y :: ys) = true) : (PyData.eqv x y = true → cmpDs xs ys = true) ∧ (PyData.eqv x y = false → cmpD x y = true) := by
  rw [cmpDs] at h
  refine ⟨fun e => by rwa [if_pos e] at h, fun e => by rwa [e, if_neg Bool.false_ne_true] at h⟩
theorem len_of_reads {h : Heap} {vs : Array Value} {xs : List PyData} {as : List Addr} (r : ReadsAll h vs.toList xs as) : vs.size = xs.length := by
  have := ReadsAll.length _ _ _ r
  simpa using this
mutual
theorem rcLtD : ∀ (d e : PyData) (A : Around) (s : Shared) (a b : Value) (as bs : List Addr), Reads s.heap a d as → Reads s.heap b e bs → d.canLay0 = true → e.canLay0 = true → cmpD d e = true → A.units + min d.depth e.depth < cLine → RcLt A s a b (ltD d e)
  | .int x, e, A, s, a, b, as, bs, ra, rb, _, _, hc, room => by
    cases e with
    | int y =>
      have := W.rcLt_alike (.int x) (.int y) A s a b as bs ra rb (by simp [W.alike]) (fun z => nomatch z) room
      rw [W.dataLt_int] at this
      rw [ltD]; exact this
    | _ => exact absurd hc (by simp [cmpD])
  | .str x, e, A, s, a, b, as, bs, ra, rb, _, _, hc, room => by
    cases e with
    | str y =>
      have := W.rcLt_alike (.str x) (.str y) A s a b as bs ra rb (by simp [W.alike]) (fun z => nomatch z) room
      rw [W.dataLt_str] at this
      rw [ltD]; exact this
    | _ => exact absurd hc (by simp [cmpD])
  | .bool x, e, A, s, a, b, as, bs, ra, rb, _, _, hc, room => by
    cases e with
    | bool y =>
      have := W.rcLt_alike (.bool x) (.bool y) A s a b as bs ra rb (by simp [W.alike]) (fun z => nomatch z) room
      rw [ltD]; exact this
    | _ => exact absurd hc (by simp [cmpD])
  | .none, e, _, _, _, _, _, _, _, _, _, _, hc, _ => absurd hc (by cases e <;> simp [cmpD])
  | .dict _, e, _, _, _, _, _, _, _, _, _, _, hc, _ => absurd hc (by cases e <;> simp [cmpD])
  | .list xs, e, A, s, a, b, as, bs, ra, rb, la, lb, hc, room => by
    cases e with
    | list ys =>
      rw [PyData.canLay0] at la lb
      rw [cmpD] at hc
      cases ra with
      | @list u o p c _ as1 g1 g2 g3 g4 =>
        cases rb with
        | @list v o' q c' _ bs1 f1 f2 f3 f4 =>
          have n1 := len_of_reads g4
          have n2 := len_of_reads f4
          have big := Fd.lstLt (s := s) ⟨_, g1, g2, _, g3⟩ ⟨_, f1, f2, _, f3⟩ (room_here room) (eq := pairEq xs ys) (lt := fun j => ltD (xs.getD j .none) (ys.getD j .none)) ⟨fun k kp kq => by
            have := eqAt_readsAll xs ys A.in1 s p.toList q.toList _ _ g4 f4 la lb (room_in room) k (by simpa using kp) (by simpa using kq)
            simpa using this, fun k kp kq bef no => by
            have := rcLtDs xs ys A.in1 s p.toList q.toList _ _ g4 f4 la lb hc (room_in room) k (by simpa using kp) (by simpa using kq) bef no
            simpa using this⟩
          rw [n1, n2] at big
          have ans := ansAt_ltDs xs ys
          rw [ltD, ← ans]
          exact big
    | _ => exact absurd hc (by simp [cmpD])
  | .tuple xs, e, A, s, a, b, as, bs, ra, rb, la, lb, hc, room => by
    cases e with
    | tuple ys =>
      rw [PyData.canLay0] at la lb
      rw [cmpD] at hc
      cases ra with
      | @tuple u o p c _ as1 g1 g2 g3 g4 =>
        cases rb with
        | @tuple v o' q c' _ bs1 f1 f2 f3 f4 =>
          have n1 := len_of_reads g4
          have n2 := len_of_reads f4
          have big := Fd.tupLt (s := s) ⟨_, g1, g2, _, g3⟩ ⟨_, f1, f2, _, f3⟩ (room_here room) (eq := pairEq xs ys) (lt := fun j => ltD (xs.getD j .none) (ys.getD j .none)) ⟨fun k kp kq => by
            have := eqAt_readsAll xs ys A.in1 s p.toList q.toList _ _ g4 f4 la lb (room_in room) k (by simpa using kp) (by simpa using kq)
            simpa using this, fun k kp kq bef no => by
            have := rcLtDs xs ys A.in1 s p.toList q.toList _ _ g4 f4 la lb hc (room_in room) k (by simpa using kp) (by simpa using kq) bef no
            simpa using this⟩
          rw [n1, n2] at big
          have ans := ansAt_ltDs xs ys
          rw [ltD, ← ans]
          exact big
    | _ => exact absurd hc (by simp [cmpD])
theorem rcLtDs : ∀ (xs ys : List PyData) (A : Around) (s : Shared) (vs ws : List Value) (as bs : List Addr), ReadsAll s.heap vs xs as → ReadsAll s.heap ws ys bs → PyData.canLayAll0 xs = true → PyData.canLayAll0 ys = true → cmpDs xs ys = true → A.units + min (PyData.depthAll xs) (PyData.depthAll ys) < cLine →
    ∀ k (kp : k < vs.length) (kq : k < ws.length), (∀ m, m < k → pairEq xs ys m = true) → pairEq xs ys k = false → RcLt A s vs[k] ws[k] (ltD (xs.getD k .none) (ys.getD k .none))
  | [], _, _, _, _, _, _, _, ra, _, _, _, _, _, _, kp, _, _, _ => by cases ra; exact absurd kp (Nat.not_lt_zero _)
  | _ :: _, [], _, _, _, _, _, _, _, rb, _, _, _, _, _, _, kq, _, _ => by cases rb; exact absurd kq (Nat.not_lt_zero _)
  | x :: xs, y :: ys, A, s, _, _, _, _, ra, rb, la, lb, hc, room, k, kp, kq, bef, no => by
    rw [PyData.canLayAll0, Bool.and_eq_true] at la lb
    have cc := cmpDs_cons hc
    cases ra with
    | cons r rs =>
      cases rb with
      | cons r' rs' =>
        cases k with
        | zero => exact rcLtD x y A s _ _ _ _ r r' la.1 lb.1 (cc.2 no) (room_head room)
        | succ k => exact rcLtDs xs ys A s _ _ _ _ rs rs' la.2 lb.2 (cc.1 (bef 0 (Nat.succ_pos k))) (room_tail room) k (Nat.lt_of_succ_lt_succ kp) (Nat.lt_of_succ_lt_succ kq) (fun m hm => bef (m + 1) (Nat.succ_lt_succ hm)) no
end
end Dn

namespace Dn
open PySem L2
open Evl (Ex)

/-! ## 31. < of tuples and of lists, by the first difference -/
def ltOk (a b : D) : Bool := shp a && shp b && cmpD a.py b.py
def gLtX : List D → Option O
  | [.tup a, .tup b] => if ltOk (.tup a) (.tup b) = true then some (bO (ltD (D.tup a).py (D.tup b).py)) else none
  | [.lst a, .lst b] => if ltOk (.lst a) (.lst b) = true then some (bO (ltD (D.lst a).py (D.lst b).py)) else none
  | l => gLt l
def rFst (K : PySem.W.Frag) : R2 := fun x y H Q => ∃ d e, Dp K H x d ∧ Dp K H y e ∧ SeqAt.shaped d = true ∧ SeqAt.shaped e = true ∧ cmpD d e = true ∧ Q (.bl (ltD d e)) H
section
variable {X : Cx}
theorem o_fst (hu : X.A.units + 64 < cLine) : OpR X (compareOp .Lt) (rFst X.K) := by
  intro pins s σ H x y v u Q I rx ry h
  obtain ⟨d, e, hd, he, sd, se, hc, q⟩ := h
  obtain ⟨as, r1⟩ := Dp.reads I d x v hd rx
  obtain ⟨bs, r2⟩ := Dp.reads I e y u he ry
  exact rcLtD d e _ _ v u as bs r1 r2 (SeqAt.canLay_of_shaped sd) (SeqAt.canLay_of_shaped se) hc (SeqAt.room_of_shaped sd hu) _ _ _ _ ⟨.bl _, H, I, rfl, q⟩
def rLtX (K : PySem.W.Frag) : R2 := fun x y H Q => rFst K x y H Q ∨ rLtO K x y H Q
theorem o_ltX (hu : X.A.units + 64 < cLine) : OpR X (compareOp .Lt) (rLtX X.K) := (o_fst hu).or (o_lt hu)
theorem lt_of {a b : D} (h : ltOk a b = true) : shp a = true ∧ shp b = true ∧ cmpD a.py b.py = true := by
  unfold ltOk at h
  rw [Bool.and_eq_true, Bool.and_eq_true] at h
  exact ⟨h.1.1, h.1.2, h.2⟩
theorem n_ltX {K : PySem.W.Frag} : Snd2 K (rLtX K) gLtX := fun B H x y a b o hx ha hb hg Q q => by
  unfold gLtX at hg
  split at hg
  · rename_i h; cases h
    split at hg
    · rename_i hs
      cases hg
      obtain ⟨h1, h2, h3⟩ := lt_of hs
      exact .inl ⟨_, _, ha.dp hx (shp_nx h1), hb.dp hx (shp_nx h2), h1, h2, h3, q.fr hx (.bl _)⟩
    · cases hg
  · rename_i h; cases h
    split at hg
    · rename_i hs
      cases hg
      obtain ⟨h1, h2, h3⟩ := lt_of hs
      exact .inl ⟨_, _, ha.dp hx (shp_nx h1), hb.dp hx (shp_nx h2), h1, h2, h3, q.fr hx (.bl _)⟩
    · cases hg
  · exact .inr (n_lt B H x y a b o hx ha hb hg Q q)
end
section
variable {i j : Int} {a b : Str} {ds es : List D}
theorem gLtX_i : gLtX [.int i, .int j] = some (bO (decide (i < j))) := nr rfl
theorem gLtX_z : gLtX [.str a, .str b] = some (bO (decide (zl a < zl b))) := gLt_z
theorem gLtX_t (h : ltOk (.tup ds) (.tup es) = true) : gLtX [.tup ds, .tup es] = some (bO (ltD (D.tup ds).py (D.tup es).py)) := if_pos h
theorem gLtX_l (h : ltOk (.lst ds) (.lst es) = true) : gLtX [.lst ds, .lst es] = some (bO (ltD (D.lst ds).py (D.lst es).py)) := if_pos h
end
theorem cutD_map {α β : Type} (f : α → β) (xs : List α) (lo hi : Option Int) : cutD (xs.map f) lo hi = (cutD xs lo hi).map f := by
  unfold cutD; rw [List.length_map, List.map_take, List.map_drop]
theorem cutD_mem {α : Type} {xs : List α} {lo hi : Option Int} {x : α} (h : x ∈ cutD xs lo hi) : x ∈ xs := by
  unfold cutD at h; exact List.mem_of_mem_drop (List.mem_of_mem_take h)
theorem cutD_len_hi {α : Type} (xs : List α) {m : Int} (h : 0 ≤ m) : (cutD xs none (some m)).length ≤ m.toNat := by
  unfold cutD
  rw [HT.sIx_none, Nat.sub_zero, List.drop_zero, List.length_take, ← Int.toNat_of_nonneg h, HT.sIx_nat]
  omega
theorem cutS_mem {z : Str} {lo hi : Option Int} {c : Nat} (h : c ∈ zl (cutS z lo hi)) : c ∈ zl z := by
  unfold cutS at h; exact List.mem_of_mem_drop (List.mem_of_mem_take h)
end Dn

namespace Dn
open PySem L2
open Evl (Ex)

/-! ## 32. list(x), of a text too -/
def rLstS : List V → Hp → VK → Prop := fun xs H Q => ∃ z : Str, xs = [.str z] ∧ z.length ≤ sizeLine ∧ ∀ l, H l = none → Q (.ref l) (upd H l (.lst ((zl z).map fun c => V.str (one c))))
theorem valsAt : ∀ (xs : List V) (us : List Value), us.length = xs.length → (∀ (j : Nat) (u : Value), us[j]? = some u → ∃ x, xs[j]? = some x ∧ RelV x u) → Vals xs us
  | [], [], _, _ => .nil
  | [], _ :: _, h, _ => by cases h
  | _ :: _, [], h, _ => by cases h
  | x :: xs, u :: us, h, k => by
    obtain ⟨y, hy, r⟩ := k 0 u rfl
    cases hy
    exact .cons r (valsAt xs us (Nat.succ.inj h) fun j v hv => k (j + 1) v hv)
theorem cr_listS {X : Cx} (hc : X.calm = true) : CallR X (.type "list") rLstS := by
  intro pins s σ H xs us Q I r h
  obtain ⟨z, rfl, hz, q⟩ := h
  obtain ⟨u, rfl, t, rfl⟩ := vals1 r
  refine call_list_str (I.ok.hd hc) z t (hn := hz) fun h' tk acc c' hk e hi => ?_
  refine ⟨.ref s.heap.objs.size, upd H s.heap.objs.size (.lst ((zl z).map fun c => V.str (one c))), I.laid hk (Nat.le_refl _) ⟨by rw [List.length_map]; exact hz, acc.toList, c', ?_, by rw [Array.toArray_toList]; exact e⟩, rfl, q _ (I.hok.fresh (Nat.le_refl _))⟩
  refine valsAt _ _ (by rw [List.length_map, Array.length_toList]; exact hi.1) fun j u hj => ?_
  obtain ⟨c, t', hc', rfl⟩ := hi.2 j u (by rw [← Array.getElem?_toList]; exact hj)
  exact ⟨.str (one c), by simp [hc'], ⟨_, rfl⟩⟩
def gListX : List D → Option O
  | [.str z] => if z.length ≤ sizeLine then some (.lst (signs z)) else none
  | l => gList l
def rListX (K : PySem.W.Frag) : List V → Hp → VK → Prop := fun xs H Q => rLstS xs H Q ∨ (∃ p ys, xs = [.ref p] ∧ (SqL K H p ys ∨ SqT K H p ys) ∧ ∀ l, H l = none → Q (.ref l) (upd H l (.lst ys)))
theorem cr_listX {X : Cx} (hc : X.calm = true) : CallR X (.type "list") (rListX X.K) := (cr_listS hc).or call_list_of
theorem n_listX {K : PySem.W.Frag} : SndN K (rListX K) gListX := fun B H vs ds o hx hr hg Q q => by
  unfold gListX at hg
  split at hg
  · split at hg
    · rename_i hl
      cases hg
      obtain ⟨v, rfl, h⟩ := hr.one
      cases h
      refine .inl ⟨_, rfl, hl, fun l hn => q.newL hx ?_ hn⟩
      rename_i z
      show RepL K B ((zl z).map fun c => V.str (one c)) ((zl z).map fun c => D.str (one c))
      induction zl z with
      | nil => exact .nil
      | cons c cs ih => exact .cons (.str _) ih
    · cases hg
  · exact .inr (n_list B H vs ds o hx hr hg Q q)
theorem gListX_z {z : Str} (h : z.length ≤ sizeLine) : gListX [.str z] = some (.lst (signs z)) := if_pos h
theorem gListX_l {ds : List D} : gListX [.lst ds] = some (.lst ds) := nr rfl
theorem gListX_t {ds : List D} : gListX [.tup ds] = some (.lst ds) := nr rfl
theorem gListX_s {ns : List Int} : gListX [.scr ns] = some (.lst (ns.map .int)) := nr rfl
end Dn

namespace Dn
open PySem L2

/-! ## 33. Ways apart; what is drawn -/
section
variable {α β γ : Type}
theorem Ev_ite {c : Prop} [Decidable c] {a b : Option (Ro α)} {Q : PostE α} {X : PostE Exn} (h1 : c → @EvC _ a Q X) (h2 : ¬ c → @EvC _ b Q X) : @EvC _ (if c then a else b) Q X := by
  by_cases h : c
  · rw [if_pos h]; exact h1 h
  · rw [if_neg h]; exact h2 h
theorem skol2 {P : α → β → γ → Prop} (h : ∀ x, ∃ a b, P x a b) : ∃ (f : α → β) (g : α → γ), ∀ x, P x (f x) (g x) :=
  ⟨fun x => (h x).choose, fun x => (h x).choose_spec.choose, fun x => (h x).choose_spec.choose_spec⟩
theorem skol1 {P : α → β → Prop} (h : ∀ x, ∃ a, P x a) : ∃ (f : α → β), ∀ x, P x (f x) :=
  ⟨fun x => (h x).choose, fun x => (h x).choose_spec⟩
end
theorem ex_map {α β : Type} {P : α → Prop} {f : α → β} : ∀ {xs : List β}, (∀ x ∈ xs, ∃ r, x = f r ∧ P r) → ∃ rl : List α, xs = rl.map f ∧ ∀ r ∈ rl, P r
  | [], _ => ⟨[], rfl, fun r h => (List.not_mem_nil h).elim⟩
  | x :: xs, h => by
    obtain ⟨r, rfl, hr⟩ := h x List.mem_cons_self
    obtain ⟨rl, rfl, hrl⟩ := ex_map (f := f) (P := P) fun y hy => h y (List.mem_cons_of_mem _ hy)
    exact ⟨r :: rl, rfl, fun s hs => (List.mem_cons.mp hs).elim (fun e => e ▸ hr) (hrl s)⟩
/-- what is wished, kept as an instance, so that simp leaves it as it stands -/
class PP (α : Type) where
  run : α → Prop
class PP2 (α β : Type) where
  run : α → β → Prop
def hb {α : Type} [P : PP α] (a : α) : Prop := P.run a
def hq {α β : Type} [P : PP2 α β] (a : α) (b : β) : Prop := P.run a b
theorem hbi {α : Type} {P : PP α} {a : α} (h : P.run a) : @hb α P a := h
theorem hqi {α β : Type} {P : PP2 α β} {a : α} {b : β} (h : P.run a b) : @hq α β P a b := h
/-- a comprehension that draws -/
theorem lc_draw {own : List Nat} {tg : Tg} {f : M O} {St : Type} (E : St → Sl) (P : D → Prop) (ds : List D) (hs : ∀ d ∈ ds, ∀ s : St, ∃ e1, tg.go d (E s) = some e1 ∧ Ev (f e1) (fun o e3 => P o.d ∧ ∃ s', wipeE e3 own = E s') (fun _ _ => False)) (hl : ds.length < 10000000) (s : St) :
    ∃ xs s', lcL own tg cYes f ds [] (E s) = some (xs, E s') ∧ xs.length = ds.length ∧ ∀ x ∈ xs, P x := by
  obtain ⟨xs, e', h1, h2, h3, s', rfl⟩ := lcL_gen (own := own) (tg := tg) (t := cYes) (f := f) (fun _ e => ∃ s, e = E s) (fun _ _ x => P x) ds [] (E s) (by simpa using hl) ⟨s, rfl⟩ (by
    rintro i d e hd ⟨s, rfl⟩
    obtain ⟨e1, g1, g2⟩ := hs d (List.mem_of_getElem? hd) s
    obtain ⟨o, e3, g3, g4, s', g5⟩ := g2.get
    exact ⟨e1, e1, o, e3, g1, rfl, g3, g4, s', g5⟩)
  rw [List.nil_append] at h1
  refine ⟨xs, s', h1, h2, fun x hx => ?_⟩
  obtain ⟨i, hi⟩ := List.getElem?_of_mem hx
  have hlt : i < ds.length := by rw [← h2]; exact (List.getElem?_eq_some_iff.mp hi).1
  obtain ⟨y, hy, c⟩ := h3 i _ (List.getElem?_eq_getElem hlt)
  rw [hi] at hy
  cases hy
  exact c
/-! slices and places, by whole numbers from nought on -/
section
variable {α : Type} {xs : List α}
theorem cutD_lo (k : Nat) : cutD xs (some (k : Int)) none = xs.drop k := by
  unfold cutD
  rw [HT.sIx_none, HT.sIx_nat]
  by_cases h : k ≤ xs.length
  · rw [Nat.min_eq_left h, List.take_of_length_le (by rw [List.length_drop]; omega)]
  · rw [Nat.min_eq_right (by omega), List.drop_eq_nil_of_le (by omega), List.drop_eq_nil_of_le (by omega), List.take_nil]
theorem cutD_hi (k : Nat) : cutD xs none (some (k : Int)) = xs.take k := by
  unfold cutD
  rw [HT.sIx_none, HT.sIx_nat, List.drop_zero, Nat.sub_zero]
  by_cases h : k ≤ xs.length
  · rw [Nat.min_eq_left h]
  · rw [Nat.min_eq_right (by omega), List.take_of_length_le (by omega), List.take_of_length_le (by omega)]
theorem cutD_1 : cutD xs (some 1) none = xs.drop 1 := cutD_lo 1
theorem cutD_2 : cutD xs (some 2) none = xs.drop 2 := cutD_lo 2
theorem ixN_nat {n : Nat} {j : Int} (h0 : 0 ≤ j) (h1 : j < n) : ixN n j = some j.toNat := by unfold ixN; rw [if_pos h0, if_pos h1]
theorem atI_cn {i : Nat} : atI xs (i : Int) = xs[i]? := by
  by_cases h : i < xs.length
  · rw [atI_nat' (by omega) (by omega), Int.toNat_natCast]
  · rw [List.getElem?_eq_none (by omega)]
    unfold atI ixN
    rw [if_pos (by omega), if_neg (by omega)]; rfl
theorem atI_c0 {x : α} : atI (x :: xs) 0 = some x := atI_cn (i := 0)
theorem atI_c1 {x y : α} : atI (x :: y :: xs) 1 = some y := atI_cn (i := 1)
theorem atI_c2 {x y z : α} : atI (x :: y :: z :: xs) 2 = some z := atI_cn (i := 2)
theorem atI_c3 {x y z u : α} : atI (x :: y :: z :: u :: xs) 3 = some u := atI_cn (i := 3)
theorem atI_c4 {x y z u v : α} : atI (x :: y :: z :: u :: v :: xs) 4 = some v := atI_cn (i := 4)
theorem atI_c5 {x y z u v w : α} : atI (x :: y :: z :: u :: v :: w :: xs) 5 = some w := atI_cn (i := 5)
theorem eqv_iz {i : Int} {z : Str} : D.eqv (.int i) (.str z) = false := by simp [D.eqv, D.py, PyData.eqv]
theorem eqv_zi {i : Int} {z : Str} : D.eqv (.str z) (.int i) = false := by simp [D.eqv, D.py, PyData.eqv]
theorem gEq_iz {i : Int} {z : Str} (h : shp (.str z) = true) : gEq [.int i, .str z] = some (bO false) := by
  show (if (shp (.int i) && shp (.str z)) = true then some (bO (D.eqv (.int i) (.str z))) else none) = _
  rw [h, shp_i, eqv_iz]; rfl
theorem gEq_zi {i : Int} {z : Str} (h : shp (.str z) = true) : gEq [.str z, .int i] = some (bO false) := by
  show (if (shp (.str z) && shp (.int i)) = true then some (bO (D.eqv (.str z) (.int i))) else none) = _
  rw [h, shp_i, eqv_zi]; rfl
theorem gNe_iz {i : Int} {z : Str} (h : shp (.str z) = true) : gNe [.int i, .str z] = some (bO true) := by
  show (if (shp (.int i) && shp (.str z)) = true then some (bO (!D.eqv (.int i) (.str z))) else none) = _
  rw [h, shp_i, eqv_iz]; rfl
theorem gNe_zi {i : Int} {z : Str} (h : shp (.str z) = true) : gNe [.str z, .int i] = some (bO true) := by
  show (if (shp (.str z) && shp (.int i)) = true then some (bO (!D.eqv (.str z) (.int i))) else none) = _
  rw [h, shp_i, eqv_zi]; rfl
theorem shp_z {z : Str} (h : ∀ c ∈ zl z, c < 1114112) : shp (.str z) = true := (shp_str h).shp (by omega)
theorem truD_bl (b : Bool) : truD (.bl b) = some b := nr rfl
theorem truD_l (ds : List D) : truD (.lst ds) = some (!ds.isEmpty) := nr rfl
theorem truD_t (ds : List D) : truD (.tup ds) = some (!ds.isEmpty) := nr rfl
end
end Dn

namespace Dn
open PySem L2
open Evl (Ex)

/-! ## 34. max and min of two whole numbers -/
def gMax2 : List D → Option O
  | [.int i, .int j] => some (iO (if j > i then j else i))
  | _ => none
def gMin2 : List D → Option O
  | [.int i, .int j] => some (iO (if j < i then j else i))
  | _ => none
theorem RdL.two {K : PySem.W.Frag} {B H : Hp} {vs : List V} {d e : D} (h : RdL K B H vs [d, e]) : ∃ v w, vs = [v, w] ∧ Rd K B H v d ∧ Rd K B H w e := by
  cases h with
  | cons h1 h => cases h with
    | cons h2 h => cases h; exact ⟨_, _, rfl, h1, h2⟩
theorem n_max2 {K : PySem.W.Frag} : SndN K (fun xs H Q => ∃ i j, xs = [.int i, .int j] ∧ Q (.int (if j > i then j else i)) H) gMax2 := by
  intro B H vs ds o hx hr hg Q q
  unfold gMax2 at hg
  split at hg
  · obtain ⟨v, w, rfl, h1, h2⟩ := hr.two
    cases h1; cases h2
    injection hg with hg
    subst hg
    exact ⟨_, _, rfl, q.fr hx (.int _)⟩
  · cases hg
theorem n_min2 {K : PySem.W.Frag} : SndN K (fun xs H Q => ∃ i j, xs = [.int i, .int j] ∧ Q (.int (if j < i then j else i)) H) gMin2 := by
  intro B H vs ds o hx hr hg Q q
  unfold gMin2 at hg
  split at hg
  · obtain ⟨v, w, rfl, h1, h2⟩ := hr.two
    cases h1; cases h2
    injection hg with hg
    subst hg
    exact ⟨_, _, rfl, q.fr hx (.int _)⟩
  · cases hg
theorem gMax2_i {i j : Int} : gMax2 [.int i, .int j] = some (iO (if j > i then j else i)) := nr rfl
theorem gMin2_i {i j : Int} : gMin2 [.int i, .int j] = some (iO (if j < i then j else i)) := nr rfl
end Dn

namespace Dn
open PySem L2
open Evl (Ex)

/-! ## 35. A def that calls itself: by how deep it may go; a statement that is never reached -/
section
variable {P : Program} {w : World} {K : PySem.W.Frag} {mg : Str → Option Value} {base : Heap}
/-- as deep as nought: nothing is promised -/
theorem fn_none {k n : Nat} {f : Addr} {fd : FuncData} {ps : List Str} (hn : ps.length = n) : FnOk P w K mg base (L2.CX P w) k f fd ps (spD K mg n fun _ => none) :=
  ⟨fun vs H Q E h => h.1.trans hn.symm, fun A outer s H args us vs Q E _ _ _ _ h => by
    obtain ⟨_, B, os, S, _, z⟩ := h
    exact z.elim⟩
end
section
variable {X : Cx} {W : WX} {ks : List Nat} {st : Stmt}
theorem s_stuck : PS X st (tS X.K X.mg W ks M.stuck) := ⟨fun pins s σ H D I h => by
  obtain ⟨B, e, S, _, z⟩ := h
  exact z.elim⟩
end

/-! ## 36. str of a whole number, insert -/
def gStr1 : List D → Option O
  | [.int i] => if i.natAbs.log2 < 1920 then some (sO (toString i)) else none
  | _ => none
theorem n_str1 {K : PySem.W.Frag} : SndN K (fun xs H Q => ∃ i : Int, xs = [.int i] ∧ i.natAbs.log2 < 1920 ∧ Q (.str (toString i)) H) gStr1 := by
  intro B H vs ds o hx hr hg Q q
  unfold gStr1 at hg
  split at hg
  · split at hg
    · obtain ⟨v, rfl, h1⟩ := hr.one
      cases h1
      injection hg with hg
      subst hg
      exact ⟨_, rfl, by assumption, q.fr hx (.str _)⟩
    · cases hg
  · cases hg
/-- xs.insert(0, e) -/
def gIns0 (ds : List D) (d : D) : Option (D × List D) := if ds.length < sizeLine then some (.non, d :: ds) else none
def rIns0 : V → List V → Hp → VK → Prop := fun x vs H Q => ∃ (l : Addr) (xs : List V) (i : Int) (y : V), x = .ref l ∧ .int 0 :: vs = [.int i, y] ∧ H l = some (.lst xs) ∧ xs.length < sizeLine ∧ 0 ≤ i ∧ i < 2 ^ 63 ∧ Q .non (upd H l (.lst (xs.take i.toNat ++ [y] ++ xs.drop i.toNat)))
theorem u_ins0 {K : PySem.W.Frag} : Mu1 K rIns0 gIns0 := by
  intro B H l xs ds y d res ds' hx hl hr hd hg Q q
  unfold gIns0 at hg
  split at hg
  · rename_i hz
    cases hg
    refine ⟨l, xs, 0, y, rfl, rfl, hl, by rw [hr.length]; exact hz, by omega, by omega, q .non (y :: xs) (.cons hd hr) .non⟩
  · cases hg
theorem gIns0_q {ds : List D} {d : D} (h : ds.length < sizeLine) : gIns0 ds d = some (.non, d :: ds) := if_pos h
section
variable {X : Cx} {W : WX} {e : Expr} {f : M O} {i : Nat} {x : Str} {p apos pos p0 : Pos} {k0 : Nat}
theorem d_ins0 (hv : PE X (.Name x p) (tVar i)) (he : PE X e (tE X.K X.mg W f))
    (hbase : attributeBase (.Name x p) "insert" X.env (eval (.Name x p) X.env) = eval (.Name x p) X.env := by rfl)
    (hfew : ((backTo pos (starEach (.Constant (.int 0) k0 p0 :: [e]) X.env)).all (fun x => !x.1) && (backToKw pos (keywordEach [] X.env)).all (fun x => x.1.isSome)
      && decide ((.Constant (.int 0) k0 p0 :: [e]).length + ([] : List Keyword).length + (if ([] : List Keyword).isEmpty then 0 else 1) < 30)) = true := by rfl)
    (hline : (apos.endLine == pos.line) = true := by rfl) (hst : starEach (.Constant (.int 0) k0 p0 :: [e]) X.env = (false, eval (.Constant (.int 0) k0 p0) X.env) :: starEach [e] X.env := by rfl) (hst2 : starEach [e] X.env = (false, eval e X.env) :: starEach [] X.env := by rfl) (hpl : (backTo pos (starEach [e] X.env)).any (·.1) = false := by rfl) :
    PE X (.Call (.Attribute (.Name x p) "insert" apos) [.Constant (.int 0) k0 p0, e] [] pos) (tE X.K X.mg W (eMut1 gIns0 i f)) := pe_imp (pe_bm PySem.F.plainAttrs_list PySem.F.slot_list_insert PySem.F.type_list_insert mt_insert hv (pa_cons pe_int (pa_cons he pa_nil hst2) hst) hbase hfew hline hst hpl) fun σ H Q h => mut1_run u_ins0 h
end
/-! ## 37. A tuple of the module's, by its name -/
structure TupC (K : PySem.W.Frag) (mg : Str → Option Value) (x : Str) (ds : List D) : Prop where
  ex : ∃ (a : Addr) (o : Obj) (its : Array Value) (n : Nat) (vs : List V), mg x = some (.ref a) ∧ K.lookup a = some o ∧ o.cls = .type "tuple" ∧ o.data = .seq its n ∧ its.size ≤ sizeLine ∧ Vals vs its.toList ∧ ∀ B, RepL K B vs ds
theorem d_gt {X : Cx} {W : WX} {x : Str} {pos : Pos} {ds : List D} (hg : Gl X x) (h : TupC X.K X.mg x ds) (hdb : (x == ("__debug__" : Str)) = false := by decide) : PE X (.Name x pos) (tE X.K X.mg W (eC (.tup ds))) := by
  obtain ⟨a, o, its, n, vs, h1, h2, h3, h4, h5, h6, h7⟩ := h.ex
  exact d_c (v := .ref a) (pe_glob hg h1 rfl hdb) fun B => .tup (.inr ⟨o, its, n, h2, h3, h4, h5, h6⟩) (h7 B)
theorem gStr1_i {i : Int} (h : i.natAbs.log2 < 1920) : gStr1 [.int i] = some (sO (toString i)) := if_pos h
/-! ## 38. A comprehension, by what is made so far -/
theorem lc_acc_go {own : List Nat} {tg : Tg} {f : M O} (I : List D → Sl → Prop) : ∀ (ds acc : List D) (e : Sl), acc.length + ds.length < 10000000 →
    (∀ d ∈ ds, ∀ acc' e, I acc' e → ∃ e1, tg.go d e = some e1 ∧ Ev (f e1) (fun o e3 => I (acc' ++ [o.d]) (wipeE e3 own)) (fun _ _ => False)) → I acc e →
    ∃ xs e', lcL own tg cYes f ds acc e = some (acc ++ xs, e') ∧ xs.length = ds.length ∧ I (acc ++ xs) e'
  | [], acc, e, _, _, h0 => ⟨[], e, by simp [lcL], rfl, by rw [List.append_nil]; exact h0⟩
  | d :: ds, acc, e, hl, hs, h0 => by
    obtain ⟨e1, h1, h2⟩ := hs d List.mem_cons_self acc e h0
    obtain ⟨o, e3, h3, h5⟩ := h2.get
    have hz : acc.length < sizeLine := by rw [sizeLine_eq]; rw [List.length_cons] at hl; omega
    obtain ⟨xs, e', q1, q2, q3⟩ := lc_acc_go I ds (acc ++ [o.d]) (wipeE e3 own) (by rw [List.length_append]; simp only [List.length_cons, List.length_nil] at *; omega) (fun d' h => hs d' (List.mem_cons_of_mem _ h)) h5
    refine ⟨o.d :: xs, e', ?_, by rw [List.length_cons, List.length_cons, q2], by rw [List.append_assoc] at q3; exact q3⟩
    have h2 : cYes e1 = some (.ok true e1) := rfl
    simp only [lcL, h1, h2, h3, hz, if_true, q1, List.append_assoc, List.singleton_append]
theorem lc_acc {own : List Nat} {tg : Tg} {f : M O} (I : List D → Sl → Prop) (ds : List D) (e : Sl) (hl : ds.length < 10000000)
    (hs : ∀ d ∈ ds, ∀ acc' e, I acc' e → ∃ e1, tg.go d e = some e1 ∧ Ev (f e1) (fun o e3 => I (acc' ++ [o.d]) (wipeE e3 own)) (fun _ _ => False)) (h0 : I [] e) :
    ∃ xs e', lcL own tg cYes f ds [] e = some (xs, e') ∧ xs.length = ds.length ∧ I xs e' := by
  obtain ⟨xs, e', h1, h2, h3⟩ := lc_acc_go I ds [] e (by simpa using hl) hs h0
  exact ⟨xs, e', h1, h2, h3⟩
theorem lc_map_go {α : Type} {own : List Nat} {tg : Tg} {C : M O} {e : Sl} (f g : α → D) : ∀ (xs : List α) (acc : List D), acc.length + xs.length < 10000000 →
    (∀ x ∈ xs, ∃ e1, tg.go (f x) e = some e1 ∧ Ev (C e1) (fun o e3 => o.d = g x ∧ wipeE e3 own = e) (fun _ _ => False)) → lcL own tg cYes C (xs.map f) acc e = some (acc ++ xs.map g, e)
  | [], acc, _, _ => by simp [lcL]
  | x :: xs, acc, hl, hs => by
    obtain ⟨e1, h1, h2⟩ := hs x List.mem_cons_self
    obtain ⟨o, e3, h3, h4, h5⟩ := h2.get
    have hz : acc.length < sizeLine := by rw [sizeLine_eq]; rw [List.length_cons] at hl; omega
    have ih := lc_map_go f g xs (acc ++ [o.d]) (by rw [List.length_append]; simp only [List.length_cons, List.length_nil] at *; omega) (fun y hy => hs y (List.mem_cons_of_mem _ hy))
    have hy : cYes e1 = some (.ok true e1) := rfl
    rw [h4] at ih
    simp only [List.map_cons, lcL, h1, hy, h3, hz, if_true, h5, h4, ih, List.append_assoc, List.singleton_append]
/-- a comprehension that makes something of each item, and leaves the slots as they were -/
theorem lc_map {α : Type} {own : List Nat} {tg : Tg} {C : M O} {e : Sl} (f g : α → D) (xs : List α) (hl : xs.length < 10000000)
    (hs : ∀ x ∈ xs, ∃ e1, tg.go (f x) e = some e1 ∧ Ev (C e1) (fun o e3 => o.d = g x ∧ wipeE e3 own = e) (fun _ _ => False)) : lcL own tg cYes C (xs.map f) [] e = some (xs.map g, e) := by
  have := lc_map_go f g xs [] (by simpa using hl) hs
  simpa using this
theorem lc_filt_go {α : Type} {own : List Nat} {tg : Tg} {t : M Bool} {C : M O} {e : Sl} (f g : α → D) (p : α → Bool) : ∀ (xs : List α) (acc : List D), acc.length + xs.length < 10000000 →
    (∀ x ∈ xs, ∃ e1, tg.go (f x) e = some e1 ∧ Ev (t e1) (fun b e2 => b = p x ∧ if p x = true then Ev (C e2) (fun o e3 => o.d = g x ∧ wipeE e3 own = e) fun _ _ => False else wipeE e2 own = e) fun _ _ => False) → lcL own tg t C (xs.map f) acc e = some (acc ++ (xs.filter p).map g, e)
  | [], acc, _, _ => by simp [lcL]
  | x :: xs, acc, hl, hs => by
    obtain ⟨e1, h1, h2⟩ := hs x List.mem_cons_self
    obtain ⟨b, e2, h3, rfl, h4⟩ := h2.get
    have hz : acc.length < sizeLine := by rw [sizeLine_eq]; rw [List.length_cons] at hl; omega
    have hs' := fun y hy => hs y (List.mem_cons_of_mem _ hy)
    rw [List.length_cons] at hl
    cases hp : p x with
    | true =>
      rw [hp, if_pos rfl] at h4
      obtain ⟨o, e3, h5, h6, h7⟩ := h4.get
      have ih := lc_filt_go f g p xs (acc ++ [o.d]) (by rw [List.length_append]; simp only [List.length_cons, List.length_nil] at *; omega) hs'
      rw [h6] at ih
      rw [hp] at h3
      simp only [List.map_cons, lcL, h1, h3, h5, hz, if_true, h7, h6, ih, List.filter_cons, hp, List.append_assoc, List.singleton_append]
    | false =>
      rw [hp, if_neg (by decide)] at h4
      have ih := lc_filt_go f g p xs acc (by omega) hs'
      rw [hp] at h3
      simp only [List.map_cons, lcL, h1, h3, h4, ih, List.filter_cons, hp, Bool.false_eq_true, if_false]
theorem lc_filt {α : Type} {own : List Nat} {tg : Tg} {t : M Bool} {C : M O} {e : Sl} (f g : α → D) (p : α → Bool) (xs : List α) (hl : xs.length < 10000000)
    (hs : ∀ x ∈ xs, ∃ e1, tg.go (f x) e = some e1 ∧ Ev (t e1) (fun b e2 => b = p x ∧ if p x = true then Ev (C e2) (fun o e3 => o.d = g x ∧ wipeE e3 own = e) fun _ _ => False else wipeE e2 own = e) fun _ _ => False) : lcL own tg t C (xs.map f) [] e = some ((xs.filter p).map g, e) := by
  have := lc_filt_go f g p xs [] (by simpa using hl) hs
  simpa using this
theorem gSum_ints (ns : List Int) : gSum [.lst (ns.map .int)] = some (iO ns.sum) := by
  show (intsD (ns.map D.int)).map _ = _
  rw [intsD_int]; rfl
end Dn

namespace Dn
open PySem L2

/-! ## 39. == of what is plain -/
open Classical in
theorem gNe_pl {x y : D} (hx : x.pl = true) (hy : y.pl = true) (sx : shp x = true) (sy : shp y = true) : gNe [x, y] = some (bO (!decide (x = y))) := by
  have key : gNe [x, y] = (if (shp x && shp y) = true then some (bO (!D.eqv x y)) else none) ∨ (∃ i j, x = .int i ∧ y = .int j) ∨ (∃ i j, x = .str i ∧ y = .str j) ∨ (∃ i j, x = .bl i ∧ y = .bl j) := by
    cases x <;> cases y <;> first | exact .inl rfl | exact .inr (.inl ⟨_, _, rfl, rfl⟩) | exact .inr (.inr (.inl ⟨_, _, rfl, rfl⟩)) | exact .inr (.inr (.inr ⟨_, _, rfl, rfl⟩))
  have e := D.eqv_same hx hy
  rcases key with h | ⟨i, j, rfl, rfl⟩ | ⟨i, j, rfl, rfl⟩ | ⟨i, j, rfl, rfl⟩
  · rw [h, sx, sy]
    show some (bO (!D.eqv x y)) = _
    by_cases z : x = y
    · rw [e.mpr z, decide_eq_true z]
    · rw [decide_eq_false z, Bool.eq_false_iff.mpr fun w => z (e.mp w)]
  · rw [gNe_i]; congr 3; exact decide_eq_decide.mpr ⟨fun h => by rw [h], fun h => by injection h⟩
  · rw [gNe_z]; congr 3; exact decide_eq_decide.mpr ⟨fun h => by rw [h], fun h => by injection h⟩
  · cases hx
open Classical in
theorem gEq_pl {x y : D} (hx : x.pl = true) (hy : y.pl = true) (sx : shp x = true) (sy : shp y = true) : gEq [x, y] = some (bO (decide (x = y))) := by
  have key : gEq [x, y] = (if (shp x && shp y) = true then some (bO (D.eqv x y)) else none) ∨ (∃ i j, x = .int i ∧ y = .int j) ∨ (∃ i j, x = .str i ∧ y = .str j) ∨ (∃ i j, x = .bl i ∧ y = .bl j) := by
    cases x <;> cases y <;> first | exact .inl rfl | exact .inr (.inl ⟨_, _, rfl, rfl⟩) | exact .inr (.inr (.inl ⟨_, _, rfl, rfl⟩)) | exact .inr (.inr (.inr ⟨_, _, rfl, rfl⟩))
  have e := D.eqv_same hx hy
  rcases key with h | ⟨i, j, rfl, rfl⟩ | ⟨i, j, rfl, rfl⟩ | ⟨i, j, rfl, rfl⟩
  · rw [h, sx, sy]
    show some (bO (D.eqv x y)) = _
    by_cases z : x = y
    · rw [e.mpr z, decide_eq_true z]
    · rw [decide_eq_false z, Bool.eq_false_iff.mpr fun w => z (e.mp w)]
  · rw [gEq_i]; congr 2; exact decide_eq_decide.mpr ⟨fun h => by rw [h], fun h => by injection h⟩
  · rw [gEq_z]; congr 2; exact decide_eq_decide.mpr ⟨fun h => by rw [h], fun h => by injection h⟩
  · cases hx
theorem gEq_same {x : D} (hx : x.pl = true) (sx : shp x = true) : gEq [x, x] = some (bO true) := by classical rw [gEq_pl hx hx sx sx, decide_eq_true rfl]
theorem gEq_diff {x y : D} (hx : x.pl = true) (hy : y.pl = true) (sx : shp x = true) (sy : shp y = true) (h : x ≠ y) : gEq [x, y] = some (bO false) := by classical rw [gEq_pl hx hy sx sy, decide_eq_false h]
theorem gNe_same {x : D} (hx : x.pl = true) (sx : shp x = true) : gNe [x, x] = some (bO false) := by classical rw [gNe_pl hx hx sx sx, decide_eq_true rfl]; rfl
theorem gNe_diff {x y : D} (hx : x.pl = true) (hy : y.pl = true) (sx : shp x = true) (sy : shp y = true) (h : x ≠ y) : gNe [x, y] = some (bO true) := by classical rw [gNe_pl hx hy sx sy, decide_eq_false h]; rfl
end Dn

namespace Dn
open PySem L2
open PyProof.Rows (envOfC)
open Evl (Ex)
open ClX

/-! ## 39. The errors of the program: how they are made -/
/-- C's instances carry word and place -/
structure ErC (K : PySem.W.Frag) (C : Addr) : Prop where
  T : OexC K C
  nW : PySem.W.findIn K (.ref C) "word" = some none
  nP : PySem.W.findIn K (.ref C) "place" = some none
/-- behind the first class's __init__ -/
def afterI (a C : Addr) (w y : V) (H : Hp) (Q : VK) : Prop := ∀ dx, H dx = none → dx ≠ a → Q .non (upd (upd (upd H dx (exd dx [("word", w)])) a (exo a C (some dx))) dx (exd dx [("place", y), ("word", w)]))
def spT (K : PySem.W.Frag) : Sp := fun vs H Q E => ∃ (a C : Addr) (w y : V), vs = [.ref a, w, y] ∧ ErC K C ∧ H a = some (exo a C none) ∧ afterI a C w y H Q
def spB (K : PySem.W.Frag) (x : Str) : Sp := fun vs H Q E => ∃ (a C : Addr) (y : V), vs = [.ref a, y] ∧ ErC K C ∧ H a = some (exo a C none) ∧ afterI a C (.str x) y H Q
theorem init_T {K : PySem.W.Frag} {a C : Addr} {w y : V} {H : Hp} {D : Ends} (e : ErC K C) (ha : H a = some (exo a C none)) (h : ∀ dx, H dx = none → dx ≠ a → D.nx [some (.ref a), some w, some y] (upd (upd (upd H dx (exd dx [("word", w)])) a (exo a C (some dx))) dx (exd dx [("place", y), ("word", w)]))) :
    tSeq (tOst K "word" (tVar 0) (tVar 1)) (tOst K "place" (tVar 0) (tVar 2)) D [some (.ref a), some w, some y] H := by
  refine ⟨w, rfl, .ref a, rfl, a, C, rfl, e.T, e.nW, .inl ⟨ha, fun dx hd hn => ?_⟩⟩
  refine ⟨y, rfl, .ref a, rfl, a, C, rfl, e.T, e.nP, .inr ⟨dx, [("word", w)], upd_same, ?_, Nat.le_of_ble_eq_true rfl, h dx hd hn⟩⟩
  rw [upd_ne hn, upd_same]
section
variable {P : Program} {w : World} {K : PySem.W.Frag} {mg : Str → Option Value} {base : Heap}
theorem ok_initT {qual : Str} {st : Stmt} {f : Addr} {fd : FuncData} {k : Nat} (F : FunX K "__init__" qual st f fd) (Sc : FnScope ["self", "word", "place"] ["self", "word", "place"] (defScope st))
    (hb : ∀ (cdv : Value) (A : Around) (outer : List PySem.Env) (s : Shared) (H : Hp) (E : XK), PSs (cxOf (L2.CX P w) P w K mg base ["self", "word", "place"] qual (defScope st) f cdv A outer s H E) (defBody st) (tSeq (tOst K "word" (tVar 0) (tVar 1)) (tOst K "place" (tVar 0) (tVar 2)))) :
    FnOk P w K mg base (L2.CX P w) (k + 1) f fd ["self", "word", "place"] (spT K) := by
  refine F.okX Sc (fun vs H Q E h => ?_) (fun cdv A outer s H vs Q E hr h => ⟨_, hb cdv A outer s H E, ?_⟩)
  · obtain ⟨a, C, w, y, rfl, _⟩ := h; rfl
  · obtain ⟨a, C, w, y, rfl, e, ha, q⟩ := h
    exact init_T e ha fun dx h1 h2 => q dx h1 h2
theorem ok_initB {qual x : Str} {st : Stmt} {f : Addr} {fd : FuncData} {k : Nat} (F : FunX K "__init__" qual st f fd) (Sc : FnScope ["self", "place"] ["self", "place"] (defScope st))
    (hb : ∀ (cdv : Value) (A : Around) (outer : List PySem.Env) (s : Shared) (H : Hp) (E : XK), Room k (A.deeper (envOfC qual (defScope st) s.heap.objs.size f cdv)) →
      PSs (cxOf (L2.CX P w) P w K mg base ["self", "place"] qual (defScope st) f cdv A outer s H E) (defBody st) (tDrop (tCall (spT K) [] (fun _ _ _ => False) (tCons (tVar 0) (tCons (tC (.str x)) (tCons (tVar 1) tNil)))))) :
    FnOk P w K mg base (L2.CX P w) (k + 1) f fd ["self", "place"] (spB K x) := by
  refine F.okX Sc (fun vs H Q E h => ?_) (fun cdv A outer s H vs Q E hr h => ⟨_, hb cdv A outer s H E hr, ?_⟩)
  · obtain ⟨a, C, y, rfl, _⟩ := h; rfl
  · obtain ⟨a, C, y, rfl, e, ha, q⟩ := h
    exact ⟨.ref a, rfl, y, rfl, a, C, .str x, y, rfl, e, ha, fun dx h1 h2 => q dx h1 h2⟩
end
/-- C.m(e, ..), m a def of the class -/
theorem pe_cfun {X : Cx} {CX : CXT} {k : Nat} {C f : Addr} {mc : Value} {fd : FuncData} {ps : List Str} {sp : Sp} {E : XK} {x m : Str} {p1 p2 pos : Pos} {e : Expr} {es : List Expr} {t : TA} {pl : Sem Bool}
    (F : FnOk X.prog X.w X.K X.mg X.base CX k f fd ps sp) (hr : Room k X.A) (hg : Gl X x) (hm : X.mg x = some (.ref C)) (r : CRead X.K C mc) (cf : PySem.W.findCls X.K (.ref C) mc m = some (.val (.ref f))) (hk : PySem.W.keepIn X.K (.ref f) = true) (hb : Binds X.K fd ps []) (hx : Passes CX X E) (ha : PA X (e :: es) t)
    (hdb : (x == ("__debug__" : Str)) = false := by decide)
    (hc : eval (.Call (.Attribute (.Name x p1) m p2) (e :: es) [] pos) X.env = (do
      let ov ← eval (.Name x p1) X.env
      standAt p2.atName
      let (f, first) ← holding [ov] (getMethod ov m pl)
      callWith pos f first (backTo pos (starEach (e :: es) X.env)) (backToKw pos (keywordEach [] X.env))) := by rfl)
    (he : starEach (e :: es) X.env = (false, eval e X.env) :: starEach es X.env := by rfl) (hpl : (backTo pos (starEach es X.env)).any (·.1) = false := by rfl) :
    PE X (.Call (.Attribute (.Name x p1) m p2) (e :: es) [] pos) (tCall sp [] E t) := by
  refine ⟨fun pins s σ H Q I h => ?_⟩
  refine PySem.W.methodCall_KW (pl := pl) (ld_glob I hg hm ?_ hdb) hc
  refine PySem.W.method_cls I.kIn r.ga (getcval_ok I r (v := .ref f) ⟨cf, rfl⟩ fun s2 I2 => ?_)
  show wpAny _ _ (callWith pos (Value.ref f) [] (backTo pos (starEach (e :: es) X.env)) []) _ _ _
  refine PySem.W.callWith_K (h₀ := X.base) I.ok.mod.kin hk (thn (ha.run pos pins s2 σ H _ I2 h) fun us s1 ⟨vs, H1, I1, r, q⟩ => ⟨I1.kIn, ?_⟩) he hpl
  exact run_fn F hr hb .nil hx I1 r q

/-- an error class of the program, by its name -/
structure Er (P : Program) (w : World) (K : PySem.W.Frag) (mg : Str → Option Value) (base : Heap) (k : Nat) (x : Str) : Prop where
  ex : ∃ (C fI : Addr) (fd : FuncData), ErC K C ∧ PySem.W.findIn K (.ref C) "__init__" = some (some (.ref fI)) ∧ PySem.W.typeIn K (.ref fI) = some (.type "function") ∧ mg x = some (.ref C) ∧
    FnOk P w K mg base (L2.CX P w) k fI fd ["self", "place"] (spB K x) ∧ Binds K fd ["self", "place"] [] ∧ ∃ ds, Vals [.non] ds ∧ Binds K fd ["self", "place"] ds
/-- what it carries -/
def xfs (x : Str) (d : D) : List (Str × D) := [("place", d), ("word", .str x)]
/-- raise x(e) -/
def sRaise (x : Str) (f : M O) : M Fl := (items [f]).bind fun ds e => some (.ex ⟨x, xfs x (ds.headD .non)⟩ e)
/-- raise x() -/
def sRaise0 (x : Str) : M Fl := fun e => some (.ex ⟨x, xfs x .non⟩ e)
section
variable {X : Cx} {W : WX} {ks : List Nat}
theorem raise_end {C a : Addr} {x : Str} {y : V} {d : D} {H H1 B B1 : Hp} {σ : St} {S S1 : Nat → Addr → Prop} {e' : Sl} (ec : ErC X.K C) (hC : X.mg x = some (.ref C)) (r : Rp X.K B1 H1 σ e' S1) (f : Fr B H (tot S) B1 H1 (tot S1)) (ry : Rep X.K B1 y d) (ha : H1 a = none)
    (h : ExS X.K X.mg W ks B H S σ ⟨x, xfs x d⟩ e') :
    afterI a C (.str x) y (upd H1 a (exo a C none)) fun v H2 => v = .non ∧ ∃ (d : Addr) (fs : List (Str × V)), H2 a = some (exo a C (some d)) ∧ H2 d = some (exd d fs) ∧ H1 d = none ∧ W (.ref C) (some d) σ (upd (del H2 a) d (.xd fs)) := by
  intro dx hd hn
  have hd1 : H1 dx = none := by rwa [upd_ne hn] at hd
  refine ⟨rfl, dx, _, by rw [upd_ne (Ne.symm hn), upd_same], upd_same, hd1, ?_⟩
  have he : ∀ o u1 u2 u3 u4 : HO, upd (del (upd (upd (upd (upd H1 a u1) dx u2) a u3) dx u4) a) dx o = upd H1 dx o := fun o u1 u2 u3 u4 => by
    funext b
    by_cases hb : b = dx
    · subst hb; rw [upd_same, upd_same]
    · rw [upd_ne hb, upd_ne hb]
      by_cases hba : b = a
      · subst hba; rw [del_same, ha]
      · rw [del_ne hba, upd_ne hb, upd_ne hba, upd_ne hb, upd_ne hba]
  rw [he]
  have g := Gr.own r.ex hd1 (.xd [("place", y), ("word", .str x)])
  exact h C dx _ σ B1 _ S1 hC (r.grow g) upd_same (.cons ⟨rfl, ry⟩ (.cons ⟨rfl, .str x⟩ .nil)) (f.back hd1) (Kp.refl _ _) (f.trans (g.fr _))
theorem s_raise {x : Str} {k j : Nat} {e : Expr} {f : M O} {p pos pos' : Pos} (E : Er X.prog X.w X.K X.mg X.base k x) (hr : Room j X.A) (tk : Takes X W) (he : PE X e (tE X.K X.mg W f)) (hk : k + 1 ≤ j := by decide) (hc : X.calm = true := by rfl) (hg : Gl X x := by rfl)
    (hdb : (x == ("__debug__" : Str)) = false := by decide) (hs : starEach [e] X.env = (false, eval e X.env) :: starEach [] X.env := by rfl) (hpl : (backTo pos (starEach [] X.env)).any (·.1) = false := by rfl) :
    PS X (.Raise (some (.Call (.Name x p) [e] [] pos)) none pos') (tS X.K X.mg W ks (sRaise x f)) := by
  obtain ⟨C, fI, fd, ec, iC, tI, hC, F, b0, _⟩ := E.ex
  refine ps_imp (ps_raise hc tk (pmk_oex (ds := []) (dvs := []) ec.T iC tI F (hr.mono hk) b0 .nil (passes_call tk fun _ _ _ _ z => z.elim) hg hC (is_c he is_n hs) hdb hs hpl)) fun D σ H h => ?_
  obtain ⟨B, e0, S, r, h⟩ := h
  refine items_run [f] _ r ((post_len h.bind).imp (fun ds e' h vs B1 H1 S1 r1 rl f1 => ?_) fun _ _ z => ExS.toE z)
  obtain ⟨h, hl⟩ := h
  match ds, rl, hl with
  | [d], .cons ry .nil, _ =>
    refine ⟨by simp, fun a ha => ⟨a, C, _, rfl, ec, upd_same, raise_end ec hC r1 f1 ry ha h⟩⟩
theorem tMk0 : True := trivial
theorem pmk_oex0 {CX : CXT} {x : Str} {p pos : Pos} {C fI : Addr} {k : Nat} {fd : FuncData} {ps : List Str} {sp : Sp} {ds : List Value} {dvs : List V} (T : OexC X.K C) (iC : PySem.W.findIn X.K (.ref C) "__init__" = some (some (.ref fI))) (tI : PySem.W.typeIn X.K (.ref fI) = some (.type "function"))
    (F1 : FnOk X.prog X.w X.K X.mg X.base CX k fI fd ps sp) (hr : Room (k + 1) X.A) (hb : Binds X.K fd ps ds) (hd : Vals dvs ds) (hx : Passes CX X (fun _ _ _ => False)) (hg : Gl X x) (hm : X.mg x = some (.ref C))
    (hdb : (x == ("__debug__" : Str)) = false := by decide) :
    PMk X (.Call (.Name x p) [] [] pos) (tMkO C sp dvs tNil) := by
  intro pins s σ H Q I h
  obtain ⟨nm, q, N, bs, bm, sn, sub, ab, col, dd, k0, k1, k2, k3, k5, hC, hbm⟩ := T.cls
  refine wpAny_Call_Name_kw (ld_glob I hg hm ?_ hdb)
  refine PySem.W.callWith_K0 I.kIn T.kC ?_
  have h' : ([] : List V).length ≤ 1000 ∧ ∀ a, H a = none → sp (.ref a :: ([] ++ dvs)) (upd H a (exo a C none))
    (fun v H2 => v = .non ∧ ∃ (d : Addr) (fs : List (Str × V)), H2 a = some (exo a C (some d)) ∧ H2 d = some (exd d fs) ∧ H d = none ∧ Q (.ref C) (some d) (upd (del H2 a) d (.xd fs))) (fun _ _ _ => False) := h
  obtain ⟨_, q1⟩ := h'
  show wpAny _ _ (call (.ref C) []) _ _ _
  obtain ⟨hp, g, dr, tk, os⟩ := s
  have hsz : hp.objs.size ≤ hp.objs.size + 1 := Nat.le_succ _
  have hn : H (hp.objs.size + 1) = none := I.hok.fresh hsz
  have hq := q1 (hp.objs.size + 1) hn
  have kk : ∀ b o, hp.get? b = some o → ((hp.push (PySem.W.kdv_tup [])).push (PySem.HandSPX.excO C hp.objs.size)).get? b = some o := fun b o e => Heap.get?_push_of_some _ (Heap.get?_push_of_some _ e)
  have hget : ((hp.push (PySem.W.kdv_tup [])).push (PySem.HandSPX.excO C hp.objs.size)).get? (hp.objs.size + 1) = some (PySem.HandSPX.excO C hp.objs.size) := by heap_get
  have I2 : Inv X pins σ (upd H (hp.objs.size + 1) (exo (hp.objs.size + 1) C none)) ⟨(hp.push (PySem.W.kdv_tup [])).push (PySem.HandSPX.excO C hp.objs.size), g, dr, tk, os⟩ :=
    I.laid (t' := tk) (a := hp.objs.size + 1) (o := exo (hp.objs.size + 1) C none) (h' := (hp.push (PySem.W.kdv_tup [])).push (PySem.HandSPX.excO C hp.objs.size)) kk hsz (exo_ok hget)
  have r2 : Vals (V.ref (hp.objs.size + 1) :: ([] ++ dvs)) (Value.ref (hp.objs.size + 1) :: ([] ++ ds)) := .cons rfl hd
  have hl : (Value.ref (hp.objs.size + 1) :: ([] : List Value) ++ ds).length = ps.length := by
    have e := r2.length
    rw [F1.len _ _ _ _ hq] at e
    exact e.symm
  refine wpAny_call (PySem.HandSPX.call_own F.excBase_ValueError (fun Y => PySem.HandSPX.refsVE_contains Y bm hbm) (I.kIn _ _ hC) (PySem.W.looks_findIn I.kIn iC) (fun self => PySem.W.bind_fn I.kIn self tI) (by rw [sizeLine_eq]; simp)
    (codeAny_mono (F1.run _ X.stack _ _ ⟨Value.ref (hp.objs.size + 1) :: [], []⟩ (Value.ref (hp.objs.size + 1) :: ([] ++ ds)) _ _ (fun _ _ _ => False) (hr.make C [] []) (I2.env0.make C [] []) (show BindsTo _ fd ⟨Value.ref (hp.objs.size + 1) :: [], []⟩ (ps.zip (Value.ref (hp.objs.size + 1) :: ([] ++ ds))) from hb _ [Value.ref (hp.objs.size + 1)] I2.kIn hl) r2 hq) fun r s' hq' => ?_))
  cases r with
  | error er => exact hx pins σ _ _ er s' I2 hq'
  | ok fl =>
    cases fl with
    | ret u =>
      obtain ⟨v, H2, os2, bare2, un2, hok2, rv, ev, d, fs, ea, ed, hd1, q2⟩ := hq'
      subst ev
      obtain ⟨h2, g2, d2, t2, os'⟩ := s'
      exact ⟨rv, mk_end (raises_own T.exC T.tyC) I hsz kk un2 hok2 os2 bare2 ea ed hd1 q2⟩
    | next => exact False.elim hq'
    | brk => exact False.elim hq'
    | cont => exact False.elim hq'
theorem s_raise0 {x : Str} {k j : Nat} {p pos pos' : Pos} (E : Er X.prog X.w X.K X.mg X.base k x) (hr : Room j X.A) (tk : Takes X W) (hk : k + 1 ≤ j := by decide) (hc : X.calm = true := by rfl) (hg : Gl X x := by rfl)
    (hdb : (x == ("__debug__" : Str)) = false := by decide) :
    PS X (.Raise (some (.Call (.Name x p) [] [] pos)) none pos') (tS X.K X.mg W ks (sRaise0 x)) := by
  obtain ⟨C, fI, fd, ec, iC, tI, hC, F, _, ds, vd, b0⟩ := E.ex
  refine ps_imp (ps_raise hc tk (pmk_oex0 (ds := ds) (dvs := [.non]) ec.T iC tI F (hr.mono hk) b0 vd (passes_call tk fun _ _ _ _ z => z.elim) hg hC hdb)) fun D σ H h => ?_
  obtain ⟨B, e0, S, r, h⟩ := h
  exact ⟨by simp, fun a ha => ⟨a, C, .non, rfl, ec, upd_same, raise_end ec hC r (Fr.refl _ _ _) .non ha h⟩⟩
end
end Dn

namespace Dn
open PySem L2
open Evl (Ex)

/-! ## 40. try .. except .. as .. -/
/-- behind a clause's suite: its name is gone; a suite that raises isn't covered -/
def wipeR (i : Nat) : Option (Ro Fl) → Option (Ro Fl)
  | some (.ok fl e) => some (.ok fl (e.set i none))
  | _ => none
/-- what a clause's suite gives, wherever the error stands -/
def Suits (i : Nat) (h : Addr → Addr → Exn → M Fl) (x : Exn) (e : Sl) (r : Ro Fl) : Prop := ∀ a d, wipeR i (h a d x (e.set i (some (.exn a d x)))) = some r
open Classical in
noncomputable def sTry (c : Str → Option Bool) (i : Nat) (body : M Fl) (h : Addr → Addr → Exn → M Fl) : M Fl := fun e => match body e with
  | some (.ex x e') => match c x.cls with
    | some true => if hh : ∃ r, Suits i h x e' r then some hh.choose else none
    | some false => some (.ex x e')
    | none => none
  | r => r
section
variable {K : PySem.W.Frag} {mg : Str → Option Value} {W : WX} {B B' H H' : Hp} {v x y : V} {o : O} {d : D} {σ σ' : St} {e e' : Sl} {S S' : Nat → Addr → Prop} {T T' : Addr → Prop} {ks : List Nat}
/-- the slots without what isn't theirs -/
theorem Rp.less (h : Rp K B H σ e S) {d : Addr} {fs : List (Str × V)} (hd : H d = some (.xd fs)) : Rp K B H σ e (fun j a => S j a ∧ a ≠ d) := by
  refine ⟨h.len, h.ex, fun i o ho => ?_, fun i j a h1 h2 => h.dis i j a h1.1 h2.1, fun i a h1 => h.own i a h1.1⟩
  obtain ⟨v, h1, h2⟩ := h.rep i o ho
  refine ⟨v, h1, h2.iff fun a => ⟨fun z => ⟨z, fun q => ?_⟩, fun z => z.1⟩⟩
  subst q
  cases o with
  | fr _ => exact h2.2 _ z
  | lst ds =>
    obtain ⟨p, xs, e, hp, hr, hs⟩ := h2
    rw [(hs _).mp z, hp] at hd; cases hd
  | dct kvs =>
    obtain ⟨p, xs, e, hp, hk, hr, hs⟩ := h2
    rw [(hs _).mp z, hp] at hd; cases hd
  | ins c ns xs =>
    obtain ⟨p, C, dx, fs, e, hp, hc, hk, hr, hs⟩ := h2
    rw [(hs _).mp z, hp] at hd; cases hd
  | exn _ _ _ => exact h2.2.2 _ z
/-- slot i emptied on both sides -/
theorem Rp.gone (h : Rp K B H σ e S) (i : Nat) : Rp K B H (σ.set i none) (e.set i none) (fun j => if j = i then noS else S j) := by
  have f := h.forget i
  refine ⟨by rw [List.length_set, List.length_set]; exact h.len, f.ex, fun j o ho => ?_, f.dis, f.own⟩
  obtain ⟨w, h1, h2⟩ := f.rep j o ho
  by_cases hj : j = i
  · subst hj
    by_cases hl : j < e.length
    · rw [List.getElem?_set_self hl] at ho; cases ho
    · rw [List.getElem?_eq_none (by rw [List.length_set]; omega)] at ho; cases ho
  · exact ⟨w, by rw [List.getElem?_set_ne (Ne.symm hj)]; exact h1, h2⟩
theorem Vl.gone (h : Vl K B H σ e S v o T) (i : Nat) : Vl K B H (σ.set i none) (e.set i none) (fun j => if j = i then noS else S j) v o T :=
  ⟨h.rp.gone i, h.ro, h.own, fun a ha z => h.dj a ha (tot_forget z)⟩
end
section
variable {X : Cx} {W : WX} {ks : List Nat} {cv : Value} {c : Str → Option Bool} {i : Nat} {x n : Str} {body suite : List Stmt} {b₀ : Stmt} {np pos pos' : Pos} {gb : M Fl} {h : Addr → Addr → Exn → M Fl}
theorem s_try (hN : X.N.Nodup) (hi : X.N[i]? = some n) (hc : Names X x cv) (tk : Takes X W) (ht : ∀ y b C, c y = some b → X.mg y = some (.ref C) → PySem.W.exmOne X.K (.ref C) cv = some b)
    (hb : ∀ (W : WX) (pn : List (Addr × Obj)) (xe : Value → Shared → Prop), Takes (X.tr pn xe) W → PassesOwn (model X.prog X.w) X.A X.env xe → PSs (X.tr pn xe) body (tS X.K X.mg W ks gb))
    (hsu : ∀ (a : Addr) (oe : Obj) (C dd : Addr) (y : Exn) (pn : List (Addr × Obj)), X.mg y.cls = some (.ref C) → Zc (.ref C) (some dd) oe → (∃ vs, oe.data = .fields vs) →
      PSs (X.suite a ((a, oe) :: pn)) (b₀ :: suite) (tS X.K X.mg (fun _ _ _ _ => False) ks (h a dd y)))
    (hk : i ∉ ks := by decide) (hs : X.stack = X.env :: X.outer := by rfl) (hf : X.env.frame = some X.env.locals := by rfl) (hln : X.env.kindOf n = some .local := by rfl) :
    PS X (.Try body [.ExceptHandler (some (.Name x np)) (some n) (b₀ :: suite) pos'] [] [] pos) (tS X.K X.mg W ks (sTry c i gb h)) := by
  refine ps_imp (ps_try_as (c := cv) (Wout := W) (tb := fun W => tS X.K X.mg W ks gb)
    (ts := fun a cls d D σ H => ∃ (C dd : Addr) (y : Exn), cls = .ref C ∧ d = some dd ∧ X.mg y.cls = some (.ref C) ∧ tS X.K X.mg (fun _ _ _ _ => False) ks (h a dd y) D σ H)
    hs hf hN hi hln hc tk hb (fun a oe cls d pn hz hv => ⟨fun pins s σ H D I q => ?_⟩)) fun D σ H q => ?_
  · obtain ⟨C, dd, y, rfl, rfl, hC, q⟩ := q
    exact (hsu a oe C dd y pn hC hz hv).run pins s σ H D I q
  · obtain ⟨B, e, S, r, q⟩ := q
    refine ⟨B, e, S, r, ?_⟩
    change Post (sTry c i gb h e) (Nd X.K D ks B H S σ) (ExS X.K X.mg W ks B H S σ) at q
    change Post (gb e) (Nd X.K D ks B H S σ) (ExS X.K X.mg _ ks B H S σ)
    unfold sTry at q
    cases hg : gb e with
    | none => rw [hg] at q; exact q.elim
    | some ro =>
      rw [hg] at q
      cases ro with
      | ok fl e' => exact q
      | ex y e' =>
        intro C d fs σ' B' H' S' hC r' hd hx hn k' f'
        dsimp only at q
        cases hcy : c y.cls with
        | none => rw [hcy] at q; exact q.elim
        | some b =>
          rw [hcy] at q
          cases b with
          | false =>
            refine ⟨false, ht _ _ _ hcy hC, fun z => (nomatch z), fun _ => ?_⟩
            exact (show ExS X.K X.mg W ks B H S σ y e' from q) C d fs σ' B' H' S' hC r' hd hx hn k' f'
          | true =>
            refine ⟨true, ht _ _ _ hcy hC, fun _ a ha => ⟨C, d, y, rfl, rfl, hC, ?_⟩, fun z => (nomatch z)⟩
            dsimp only at q
            by_cases hh : ∃ r, Suits i h y e' r
            · rw [dif_pos hh] at q
              have sp := hh.choose_spec
              generalize hh.choose = rr at q sp
              have sp2 := sp a d
              have hB : Ex B' (upd B' d (.xd fs)) := fun b u z => by
                by_cases hb : b = d
                · subst hb; rw [upd_same]; exact (r'.ex _ _ z).symm.trans hd |>.symm ▸ rfl
                · rw [upd_ne hb]; exact z
              have hH : Ex (upd B' d (.xd fs)) H' := fun b u z => by
                by_cases hb : b = d
                · subst hb; rw [upd_same] at z; cases z; exact hd
                · rw [upd_ne hb] at z; exact r'.ex _ _ z
              have r1 : Rp X.K (upd B' d (.xd fs)) H' σ' e' (fun j a => S' j a ∧ a ≠ d) := (r'.less hd).bgrow hB hH fun j b z => by
                rw [upd_ne z.2]; exact (r'.own j b z.1).1
              have vl : Vl X.K (upd B' d (.xd fs)) H' σ' e' (fun j a => S' j a ∧ a ≠ d) (.ref a) (.exn a d y) noS :=
                ⟨r1, ⟨rfl, ⟨fs, upd_same, hx.mono hB⟩, fun _ z => z⟩, own_no, fun _ z => z.elim⟩
              have f2 : Fr B H (tot S) (upd B' d (.xd fs)) H' (tot (fun j => if j = i then (if i < e'.length then noS else noS) else fun a => S' j a ∧ a ≠ d)) := by
                refine ⟨f'.b.trans hB, f'.k, fun b z => f'.n b ?_, fun b u z => ?_, f'.a⟩
                · rcases tot_set z with z | ⟨j, z⟩
                  · exact z.elim
                  · exact ⟨j, z.1⟩
                · by_cases hb : b = d
                  · subst hb; exact .inr (.inr hn)
                  · rw [upd_ne hb] at z; exact f'.c _ _ z
              have k2 : Kp ks σ (σ'.set i (some (.ref a))) := k'.trans (Kp.set hk)
              refine ⟨_, _, _, vl.set i, ?_⟩
              change Post (h a d y (e'.set i (some (.exn a d y)))) _ _
              cases hq : h a d y (e'.set i (some (.exn a d y))) with
              | none => rw [hq] at sp2; cases sp2
              | some ro2 =>
                rw [hq] at sp2
                cases ro2 with
                | ex _ _ => cases sp2
                | ok fl e3 =>
                  cases sp2
                  have q' : Nd X.K D ks B H S σ fl (e3.set i none) := q
                  cases fl with
                  | next => exact fun σ4 B4 H4 S4 r4 k4 f4 => q' (σ4.set i none) B4 H4 _ (r4.gone i) ((k2.trans k4).trans (Kp.set hk)) ((f2.trans f4).imp (fun _ z => z) fun _ z => tot_forget z)
                  | brk => exact fun σ4 B4 H4 S4 r4 k4 f4 => q' (σ4.set i none) B4 H4 _ (r4.gone i) ((k2.trans k4).trans (Kp.set hk)) ((f2.trans f4).imp (fun _ z => z) fun _ z => tot_forget z)
                  | cnt => exact fun σ4 B4 H4 S4 r4 k4 f4 => q' (σ4.set i none) B4 H4 _ (r4.gone i) ((k2.trans k4).trans (Kp.set hk)) ((f2.trans f4).imp (fun _ z => z) fun _ z => tot_forget z)
                  | ret o => exact fun v σ4 B4 H4 S4 T vl4 k4 f4 => q' v (σ4.set i none) B4 H4 _ T (vl4.gone i) ((k2.trans k4).trans (Kp.set hk)) ((f2.trans f4).imp (fun _ z => z) fun _ z => z.elim .inl fun z => .inr (tot_forget z))
            · rw [dif_neg hh] at q; exact q.elim
end

/-! ## 41. What a clause's suite asks of its error -/
/-- y.word, y.place: cs the classes that are known -/
def eXf (cs : List Str) (a d : Addr) (y : Exn) (i : Nat) (f : Str) : M O := fun e => if y.cls ∈ cs then match e[i]? with
  | some (some (.exn a' d' z)) => if a' = a ∧ d' = d then (z.fs.lookup f).map fun u => .ok (.fr u) e else none
  | _ => none
  else none
/-- isinstance(y, t) -/
def eXi (t : Str → Option Bool) (a d : Addr) (y : Exn) (i : Nat) : M O := fun e => match e[i]? with
  | some (some (.exn a' d' z)) => if a' = a ∧ d' = d then (t y.cls).map fun b => .ok (bO b) e else none
  | _ => none
/-- what the written part says of the classes cs -/
structure XfT (K : PySem.W.Frag) (mg : Str → Option Value) (cs : List Str) : Prop where
  of : ∀ y ∈ cs, ∀ C, mg y = some (.ref C) → XfC K C ∧ PySem.W.findIn K (.ref C) "word" = some none ∧ PySem.W.findIn K (.ref C) "place" = some none
theorem xf_lookup {K : PySem.W.Frag} {B : Hp} {f : Str} : ∀ {fs : List (Str × V)} {gs : List (Str × D)} {d : D}, XF K B fs gs → gs.lookup f = some d → ∃ v, fs.lookup f = some v ∧ Rep K B v d
  | _, _, _, .nil, h => by cases h
  | p :: fs, q :: gs, d, .cons hpq hr, h => by
    obtain ⟨a, v⟩ := p
    obtain ⟨b, u⟩ := q
    obtain ⟨e, r⟩ := hpq
    dsimp only at e r
    subst e
    rw [List.lookup_cons] at h ⊢
    split at h
    · cases h; exact ⟨v, rfl, r⟩
    · exact xf_lookup hr h
section
variable {X : Cx} {W : WX} {a C dd : Addr} {oe : Obj} {pn : List (Addr × Obj)} {y : Exn} {i : Nat} {n : Str} {pos p p1 p2 : Pos} {cs : List Str}
theorem d_xf {f : Str} (T : XfT X.K X.mg cs) (hf' : f = "word" ∨ f = "place") (hC : X.mg y.cls = some (.ref C)) (hz : Zc (.ref C) (some dd) oe) (hf : ∃ vs, oe.data = .fields vs) (hv : PE (X.suite a ((a, oe) :: pn)) (.Name n p) (tVar i))
    (hb : attributeBase (.Name n p) f X.env (eval (.Name n p) X.env) = eval (.Name n p) X.env := by rfl) :
    PE (X.suite a ((a, oe) :: pn)) (.Attribute (.Name n p) f pos) (tE X.K X.mg W (eXf cs a dd y i f)) := by
  refine ⟨fun pins s σ H Q I h => ?_⟩
  obtain ⟨B, e, S, r, h⟩ := h
  unfold eXf at h
  by_cases hy : y.cls ∈ cs
  · rw [if_pos hy] at h
    obtain ⟨xc, nw, np⟩ := T.of _ hy _ hC
    have hno : PySem.W.findIn X.K (.ref C) f = some none := by
      rcases hf' with rfl | rfl
      · exact nw
      · exact np
    refine (pe_xf xc hno hz hf hv hb).run pins s σ H Q I ?_
    split at h
    · rename_i a' d' z hz'
      split at h
      · rename_i had
        obtain ⟨rfl, rfl⟩ := had
        cases hl : z.fs.lookup f with
        | none => rw [hl] at h; exact h.elim
        | some u =>
          rw [hl] at h
          obtain ⟨v, hv', rv, ⟨fs, hd, hx⟩, _⟩ := r.rep i _ hz'
          obtain ⟨w, lw, rw'⟩ := xf_lookup hx hl
          subst rv
          have h' : ∀ v B' H' S' T, Vl X.K B' H' σ e S' v (.fr u) T → Fr B H (tot S) B' H' (fun a => T a ∨ tot S' a) → Q v H' := h
          exact ⟨_, hv', rfl, rfl, d', fs, w, rfl, r.ex _ _ hd, lw, h' w B H S noS (.fr r rw') ((Fr.refl _ _ _).imp (fun _ z => z) fun a z => z.elim (fun z => z.elim) id)⟩
      · exact h.elim
    · exact h.elim
  · rw [if_neg hy] at h; exact h.elim
/-- what isinstance asks of the classes: cv stands for the class t asked for -/
structure XiT (K : PySem.W.Frag) (mg : Str → Option Value) (t : Str → Option Bool) (cv : Value) : Prop where
  of : ∀ y b, t y = some b → ∀ C, mg y = some (.ref C) → ExcC K C ∧ PySem.W.kitOne K (.ref C) cv = some b
theorem call_isX {D d : Addr} {gt : Option Value} (E : ExcC X.K D) (hz : Zc (.ref D) (some d) oe) (hf : ∃ vs, oe.data = .fields vs) :
    CallR (X.suite a ((a, oe) :: pn)) (.builtin "isinstance") (fun xs H Q => (∃ fs, H d = some (.xd fs)) ∧ rIsE X.K D a xs H Q) := by
  intro pins s σ H xs us Q I r h
  obtain ⟨⟨fs, hd⟩, c, cv, b, rfl, hcv, e, q⟩ := h
  cases r with
  | cons rx rr =>
    cases rr with
    | cons rt rr =>
      cases rr
      cases rx
      have ec := hcv _ rt
      subst ec
      obtain ⟨hget, _⟩ := I.pin (a, oe) (List.mem_append.mpr (.inl List.mem_cons_self))
      obtain ⟨vs, hv⟩ := hf
      have hx : ObjOk X.prog X.w H s.heap d (.xd fs) := I.hok d _ hd
      obtain ⟨mA, hns, hr⟩ := hx
      obtain ⟨od, ho, hl⟩ := lookIn_ns hns
      have J : PySem.W.InstAt s.heap a oe D (some od) := ⟨hget, hz.1, by unfold PySem.W.notCls; rw [hv] <;> rfl, by rw [hz.2]; exact ho⟩
      have hcl : (PySem.W.clsIn X.K D).isSome = true := by obtain ⟨cd, hc, _⟩ := PySem.W.any_some E.hd; rw [hc]; rfl
      exact PySem.W.kia_one (PySem.W.kitx_exc hcl E.hg E.hk E.hs E.ha E.hn E.ht E.hm) I.kIn J e (fun z => nomatch z) fun tk => ⟨.bl b, H, I.kept (t' := tk) fun _ _ z => z, rfl, q⟩
theorem d_xi {t : Str → Option Bool} {cv : Value} {c : V} {x : Str} (T : XiT X.K X.mg t cv) (hC : X.mg y.cls = some (.ref C)) (hz : Zc (.ref C) (some dd) oe) (hf : ∃ vs, oe.data = .fields vs) (hv : PE (X.suite a ((a, oe) :: pn)) (.Name n p) (tVar i))
    (hg : Gl X "isinstance") (hm : X.mg "isinstance" = none) (hvi : bootBuiltins "isinstance" = some (.builtin "isinstance")) (hcl : PE (X.suite a ((a, oe) :: pn)) (.Name x p2) (tC c)) (hcv : ∀ u, RelV c u → u = cv)
    (hs1 : starEach (.Name n p :: [.Name x p2]) X.env = (false, eval (.Name n p) X.env) :: starEach [.Name x p2] X.env := by rfl) (hs2 : starEach (.Name x p2 :: []) X.env = (false, eval (.Name x p2) X.env) :: starEach [] X.env := by rfl)
    (hpl : (backTo pos (starEach [.Name x p2] X.env)).any (·.1) = false := by rfl) : PE (X.suite a ((a, oe) :: pn)) (.Call (.Name "isinstance" p1) [.Name n p, .Name x p2] [] pos) (tE X.K X.mg W (eXi t a dd y i)) := by
  refine ⟨fun pins s σ H Q I h => ?_⟩
  obtain ⟨B, e, S, r, h⟩ := h
  unfold eXi at h
  split at h
  · rename_i a' d' z hz'
    split at h
    · rename_i had
      obtain ⟨rfl, rfl⟩ := had
      cases hl : t y.cls with
      | none => rw [hl] at h; exact h.elim
      | some b =>
        rw [hl] at h
        obtain ⟨E, hk⟩ := T.of _ _ hl _ hC
        obtain ⟨v, hv', rv, ⟨fs, hd, hx⟩, _⟩ := r.rep i _ hz'
        subst rv
        have h' : ∀ v B' H' S' T, Vl X.K B' H' σ e S' v (bO b) T → Fr B H (tot S) B' H' (fun a => T a ∨ tot S' a) → Q v H' := h
        refine (pe_callB (call_isX (gt := none) E hz hf) hg hm hvi (pa_cons hv (pa_cons hcl pa_nil hs2) hs1) (by decide) (by decide) hs1 hpl).run pins s σ H Q I ?_
        exact ⟨_, hv', ⟨fs, r.ex _ _ hd⟩, c, cv, b, rfl, hcv, hk, h' _ B H S noS (.fr r (.bl b)) ((Fr.refl _ _ _).imp (fun _ z => z) fun a z => z.elim (fun z => z.elim) id)⟩
    · exact h.elim
  · exact h.elim
end
end Dn

namespace Dn
open PySem L2
open PyProof.Rows (envOfC)
open Evl (Ex)
open ClX

/-! ## 42. Classes of errors by tables, as the walk's text has them -/
def clsB : Stmt → List Stmt
  | .ClassDef (body := b) .. => b
  | _ => []
/-- the table of a class: which classes are under it -/
def isaL (l : List (Str × Bool)) : Str → Option Bool := fun y => l.lookup y
theorem isa_all {P : Str → Bool → Prop} : ∀ {l : List (Str × Bool)}, (∀ p ∈ l, P p.1 p.2) → ∀ y b, isaL l y = some b → P y b
  | [], _, _, _, h => by cases h
  | p :: l, ha, y, b, h => by
    have h' : (p :: l).lookup y = some b := h
    rw [show p :: l = (p.1, p.2) :: l from rfl, List.lookup_cons] at h'
    split at h'
    · rename_i e
      cases h'
      rw [eq_of_beq e]
      exact ha p List.mem_cons_self
    · exact isa_all (fun q hq => ha q (List.mem_cons_of_mem _ hq)) y b h'
/-- a class that an except clause or isinstance names -/
structure Ec (K : PySem.W.Frag) (mg : Str → Option Value) (l : List (Str × Bool)) (x : Str) : Prop where
  ex : ∃ C, mg x = some (.ref C) ∧ ∀ y b, isaL l y = some b → ∀ C', mg y = some (.ref C') → PySem.W.exmOne K (.ref C') (.ref C) = some b
structure Ic (K : PySem.W.Frag) (mg : Str → Option Value) (l : List (Str × Bool)) (x : Str) : Prop where
  ex : ∃ C, mg x = some (.ref C) ∧ XiT K mg (isaL l) (.ref C)
structure Ib (K : PySem.W.Frag) (mg : Str → Option Value) (l : List (Str × Bool)) (x : Str) (T : String) : Prop where
  no : mg x = none
  bt : bootBuiltins x = some (.type T)
  of : XiT K mg (isaL l) (.type T)
section
variable {X : Cx} {W : WX} {a C dd : Addr} {oe : Obj} {pn : List (Addr × Obj)} {y : Exn} {i : Nat} {n x : Str} {pos p p1 p2 : Pos} {l : List (Str × Bool)}
theorem d_xic (T : Ic X.K X.mg l x) (hm : X.mg "isinstance" = none) (hvi : bootBuiltins "isinstance" = some (.builtin "isinstance")) (hC : X.mg y.cls = some (.ref C)) (hz : Zc (.ref C) (some dd) oe) (hf : ∃ vs, oe.data = .fields vs) (hv : PE (X.suite a ((a, oe) :: pn)) (.Name n p) (tVar i))
    (hg : Gl X "isinstance" := by rfl) (hgx : Gl X x := by rfl) (hdb : (x == ("__debug__" : Str)) = false := by decide)
    (hs1 : starEach (.Name n p :: [.Name x p2]) X.env = (false, eval (.Name n p) X.env) :: starEach [.Name x p2] X.env := by rfl) (hs2 : starEach (.Name x p2 :: []) X.env = (false, eval (.Name x p2) X.env) :: starEach [] X.env := by rfl)
    (hpl : (backTo pos (starEach [.Name x p2] X.env)).any (·.1) = false := by rfl) : PE (X.suite a ((a, oe) :: pn)) (.Call (.Name "isinstance" p1) [.Name n p, .Name x p2] [] pos) (tE X.K X.mg W (eXi (isaL l) a dd y i)) := by
  obtain ⟨D, hm2, T⟩ := T.ex
  exact d_xi T hC hz hf hv hg hm hvi (pe_glob (X := X.suite a ((a, oe) :: pn)) (v := .ref D) hgx hm2 rfl hdb) (fun u h => h) hs1 hs2 hpl
theorem d_xib {T : String} (B : Ib X.K X.mg l x T) (hm : X.mg "isinstance" = none) (hvi : bootBuiltins "isinstance" = some (.builtin "isinstance")) (hC : X.mg y.cls = some (.ref C)) (hz : Zc (.ref C) (some dd) oe) (hf : ∃ vs, oe.data = .fields vs) (hv : PE (X.suite a ((a, oe) :: pn)) (.Name n p) (tVar i))
    (hg : Gl X "isinstance" := by rfl) (hgx : Gl X x := by rfl) (hn : x ≠ "__name__" := by decide) (hdb : (x == ("__debug__" : Str)) = false := by decide)
    (hs1 : starEach (.Name n p :: [.Name x p2]) X.env = (false, eval (.Name n p) X.env) :: starEach [.Name x p2] X.env := by rfl) (hs2 : starEach (.Name x p2 :: []) X.env = (false, eval (.Name x p2) X.env) :: starEach [] X.env := by rfl)
    (hpl : (backTo pos (starEach [.Name x p2] X.env)).any (·.1) = false := by rfl) : PE (X.suite a ((a, oe) :: pn)) (.Call (.Name "isinstance" p1) [.Name n p, .Name x p2] [] pos) (tE X.K X.mg W (eXi (isaL l) a dd y i)) :=
  d_xi B.of hC hz hf hv hg hm hvi (pe_bltn (X := X.suite a ((a, oe) :: pn)) (v := .ty T) hgx B.no B.bt rfl hn hdb) (fun u h => h) hs1 hs2 hpl
end
section
variable {X : Cx} {W : WX} {ks : List Nat} {i : Nat} {x n : Str} {body suite : List Stmt} {b₀ : Stmt} {np pos pos' : Pos} {gb : M Fl} {h : Addr → Addr → Exn → M Fl} {l : List (Str × Bool)}
theorem s_tryc (hN : X.N.Nodup) (hi : X.N[i]? = some n) (E : Ec X.K X.mg l x) (tk : Takes X W)
    (hb : ∀ (W : WX) (pn : List (Addr × Obj)) (xe : Value → Shared → Prop), Takes (X.tr pn xe) W → PassesOwn (model X.prog X.w) X.A X.env xe → PSs (X.tr pn xe) body (tS X.K X.mg W ks gb))
    (hsu : ∀ (a : Addr) (oe : Obj) (C dd : Addr) (y : Exn) (pn : List (Addr × Obj)), X.mg y.cls = some (.ref C) → Zc (.ref C) (some dd) oe → (∃ vs, oe.data = .fields vs) →
      PSs (X.suite a ((a, oe) :: pn)) (b₀ :: suite) (tS X.K X.mg (fun _ _ _ _ => False) ks (h a dd y)))
    (hk : i ∉ ks := by decide) (hs : X.stack = X.env :: X.outer := by rfl) (hf : X.env.frame = some X.env.locals := by rfl) (hln : X.env.kindOf n = some .local := by rfl) (hg : Gl X x := by rfl) (hdb : (x == ("__debug__" : Str)) = false := by decide) :
    PS X (.Try body [.ExceptHandler (some (.Name x np)) (some n) (b₀ :: suite) pos'] [] [] pos) (tS X.K X.mg W ks (sTry (isaL l) i gb h)) := by
  obtain ⟨C, hm, hx⟩ := E.ex
  exact s_try hN hi ⟨hg, hdb, .inl hm⟩ tk (fun y b C h => hx y b h C) hb hsu hk hs hf hln
end
/-- the first of the error classes -/
structure Er0 (P : Program) (w : World) (K : PySem.W.Frag) (mg : Str → Option Value) (base : Heap) (k : Nat) (x : Str) : Prop where
  ex : ∃ (C f : Addr) (fd : FuncData), mg x = some (.ref C) ∧ CRead K C (.type "type") ∧ PySem.W.findCls K (.ref C) (.type "type") "__init__" = some (.val (.ref f)) ∧ PySem.W.keepIn K (.ref f) = true ∧
    FnOk P w K mg base (L2.CX P w) k f fd ["self", "word", "place"] (spT K) ∧ Binds K fd ["self", "word", "place"] []
section
variable {P : Program} {w : World} {K : PySem.W.Frag} {mg : Str → Option Value} {base : Heap}
theorem ok_initC {x0 qual x : Str} {st : Stmt} {f : Addr} {fd : FuncData} {k : Nat} (F : FunX K "__init__" qual st f fd) (Sc : FnScope ["self", "place"] ["self", "place"] (defScope st)) (E0 : Er0 P w K mg base k x0)
    (hb : ∀ (C f0 : Addr) (fd0 : FuncData), mg x0 = some (.ref C) → CRead K C (.type "type") → PySem.W.findCls K (.ref C) (.type "type") "__init__" = some (.val (.ref f0)) → PySem.W.keepIn K (.ref f0) = true →
      FnOk P w K mg base (L2.CX P w) k f0 fd0 ["self", "word", "place"] (spT K) → Binds K fd0 ["self", "word", "place"] [] →
      ∀ (cdv : Value) (A : Around) (outer : List PySem.Env) (s : Shared) (H : Hp) (E : XK), Room k (A.deeper (envOfC qual (defScope st) s.heap.objs.size f cdv)) → Takes (cxOf (L2.CX P w) P w K mg base ["self", "place"] qual (defScope st) f cdv A outer s H E) (fun cls d _ H => E cls d H) →
      PSs (cxOf (L2.CX P w) P w K mg base ["self", "place"] qual (defScope st) f cdv A outer s H E) (defBody st) (tDrop (tCall (spT K) [] (fun _ _ _ => False) (tCons (tVar 0) (tCons (tC (.str x)) (tCons (tVar 1) tNil)))))) :
    FnOk P w K mg base (L2.CX P w) (k + 1) f fd ["self", "place"] (spB K x) := by
  obtain ⟨C, f0, fd0, h1, h2, h3, h4, h5, h6⟩ := E0.ex
  exact ok_initB F Sc fun cdv A outer s H E hr => hb C f0 fd0 h1 h2 h3 h4 h5 h6 cdv A outer s H E hr (takes_of rfl rfl rfl rfl)
/-- a def with defaults, its text told -/
theorem funD_mk {x qual : Str} {st : Stmt} {f T : Addr} {oc : Value} {od an : Option Addr} {osl : Array (Option Value)} {kV doc pm cdv ct : Value} {its : List Value} {n : Nat} {dd : Option Addr} {sl : Array (Option Value)} {dvs : List V}
    (l : K.lookup f = some ⟨oc, od, .func (PySem.W.fnOf x qual (defArgs st) (defBody st) (defScope st) (.ref T) kV doc pm an cdv ct), osl⟩) (c : PySem.W.codeIn K cdv qual = true) (k : PySem.W.keepIn K (.ref f) = true)
    (lT : K.lookup T = some ⟨.type "tuple", dd, .seq its.toArray n, sl⟩) (r : Vals dvs its) (hd : dvs ≠ []) : FunD K x qual (defArgs st) (defBody st) (defScope st) dvs [] f (PySem.W.fnOf x qual (defArgs st) (defBody st) (defScope st) (.ref T) kV doc pm an cdv ct) :=
  ⟨⟨oc, od, .ref T, kV, doc, pm, an, cdv, ct, osl, rfl, l, c, .inr ⟨hd, T, _, its, n, rfl, lT, rfl, r⟩, .inl rfl⟩, k⟩
theorem funX_mk {x qual : Str} {st : Stmt} {f : Addr} {dV : Value} {oc : Value} {od an : Option Addr} {osl : Array (Option Value)} {kV doc pm cdv ct : Value}
    (l : K.lookup f = some ⟨oc, od, .func (PySem.W.fnOf x qual (defArgs st) (defBody st) (defScope st) dV kV doc pm an cdv ct), osl⟩) (c : PySem.W.codeIn K cdv qual = true) : FunX K x qual st f (PySem.W.fnOf x qual (defArgs st) (defBody st) (defScope st) dV kV doc pm an cdv ct) :=
  ⟨⟨oc, od, dV, kV, doc, pm, an, cdv, ct, osl, rfl, l, c⟩⟩
theorem cl_mkD {k n : Nat} {x : Str} {F : Fn} {f : Addr} {fd : FuncData} {ps : List Str} {dvs : List V} {dv : List D} (h : FnOk P w K mg base (L2.CX P w) k f fd ps (spD K mg n F)) (hm : mg x = some (.ref f)) (hk : PySem.W.keepIn K (.ref f) = true) (hb : ∃ ds, Vals dvs ds ∧ Binds K fd ps ds) (hr : ∀ B, RepL K B dvs dv) (hn : ps.length = n := by rfl) : Cl P w K mg base k x n F dv := by
  obtain ⟨ds, h1, h2⟩ := hb
  exact ⟨f, fd, ps, ds, dvs, hn, by rw [hn]; exact h, hm, hk, h2, h1, hr⟩
/-- an empty tuple of the module's -/
theorem rep_unit {B : Hp} {U : Addr} {dd : Option Addr} {n : Nat} {sl : Array (Option Value)} (l : K.lookup U = some ⟨.type "tuple", dd, .seq #[] n, sl⟩) : Rep K B (.ref U) (.tup []) :=
  .tup (.inr ⟨_, #[], n, l, rfl, rfl, Nat.zero_le _, .nil⟩) .nil
theorem er_mk {x : Str} {k : Nat} {C fI : Addr} {fd : FuncData} (e : ErC K C) (iC : PySem.W.findIn K (.ref C) "__init__" = some (some (.ref fI))) (tI : PySem.W.typeIn K (.ref fI) = some (.type "function")) (hm : mg x = some (.ref C))
    (F : FnOk P w K mg base (L2.CX P w) k fI fd ["self", "place"] (spB K x)) (b1 : ∃ ds, Vals (([.non] : List V).drop 1) ds ∧ Binds K fd ["self", "place"] ds) (b0 : ∃ ds, Vals (([.non] : List V).drop 0) ds ∧ Binds K fd ["self", "place"] ds) : Er P w K mg base k x := by
  obtain ⟨ds, h1, h2⟩ := b1
  cases h1
  exact ⟨C, fI, fd, e, iC, tI, hm, F, h2, b0⟩
theorem er0_mk {x : Str} {k : Nat} {C f : Addr} {fd : FuncData} (hm : mg x = some (.ref C)) (rd : PySem.W.readsIn K C (.type "type") = true) (ga : PySem.W.specialIn K (.ref C) "__getattribute__" = some (some (.builtin "type.__getattribute__")))
    (cf : PySem.W.findCls K (.ref C) (.type "type") "__init__" = some (.val (.ref f))) (hk : PySem.W.keepIn K (.ref f) = true) (F : FnOk P w K mg base (L2.CX P w) k f fd ["self", "word", "place"] (spT K)) (b : ∃ ds, Vals (([.non] : List V).drop 1) ds ∧ Binds K fd ["self", "word", "place"] ds) : Er0 P w K mg base k x := by
  obtain ⟨ds, h1, h2⟩ := b
  cases h1
  exact ⟨C, f, fd, hm, ⟨rd, ga⟩, cf, hk, F, h2⟩
/-- what the text tells of an error class -/
structure Ek (K : PySem.W.Frag) (mg : Str → Option Value) (x : Str) (C : Addr) : Prop where
  hm : mg x = some (.ref C)
  er : ErC K C
  xf : XfC K C
  ec : ExcC K C
theorem ek_mk {x : Str} {C : Addr} {nm q : Str} {N : Addr} {bs bm : List Value} {sn : List Str} {sub : List Value} {ab : Bool} {col : Option Bool} {dd : Option Addr} {m0 m1 m2 m3 m5 : Option Value} (hm : mg x = some (.ref C))
    (xL : K.lookup C = some (excClassObj nm q C N bs bm true sn sub ab col dd m0 m1 m2 m3 m5 "ValueError.__new__")) (hbm : PySem.HandSPX.refsVE bm = true)
    (sa : PySem.W.findIn K (.ref C) "__setattr__" = some (some (.builtin "object.__setattr__"))) (ga : PySem.W.findIn K (.ref C) "__getattribute__" = some (some (.builtin "BaseException.__getattribute__"))) (gg : PySem.W.findIn K (.ref C) "__getattr__" = some none)
    (nW : PySem.W.findIn K (.ref C) "word" = some none) (nP : PySem.W.findIn K (.ref C) "place" = some none) (kC : PySem.W.keepIn K (.ref C) = true) (eC : PySem.W.subIn K (.ref C) (.type "BaseException") = some true) (tC : PySem.W.typeIn K (.ref C) = some (.type "type")) (hC : PySem.W.hasDictIn K C = true)
    (ca : PySem.W.findIn K (.ref C) "__class__" = some (some (.builtin "object.__class__"))) (hn : PySem.W.specialIn K (.builtin "object.__class__") "__get__" = some (some (.builtin "getset_descriptor.__get__"))) (ht : PySem.W.takesIn K (.builtin "object.__class__") = some true) (mo : PySem.W.mroIn K C (.type "object") = some true) : Ek K mg x C :=
  ⟨hm, ⟨⟨⟨nm, q, N, bs, bm, sn, sub, ab, col, dd, m0, m1, m2, m3, m5, xL, hbm⟩, sa, eC, tC, kC⟩, nW, nP⟩, ⟨ga, gg, eC, hC⟩, ⟨ga, gg, eC, hC, ca, hn, ht, mo⟩⟩
theorem ek_only {x : Str} {C C' : Addr} (h : Ek K mg x C) (h' : mg x = some (.ref C')) : C' = C := by
  rw [h.hm] at h'
  cases h'
  rfl
/-- a row of a table -/
theorem row_e {x : Str} {C D : Addr} {b : Bool} (h : Ek K mg x C) (hD : PySem.W.subIn K (.ref D) (.type "BaseException") = some true) (hd : PySem.W.hasDictIn K D = true) (tD : PySem.W.typeIn K (.ref D) = some (.type "type")) (s : PySem.W.subIn K (.ref C) (.ref D) = some b) :
    ∀ C', mg x = some (.ref C') → PySem.W.exmOne K (.ref C') (.ref D) = some b := fun C' h' => by
  rw [ek_only h h']
  exact PySem.W.exm_ref hD hd tD s
theorem row_i {x : Str} {C : Addr} {cv : Value} {b : Bool} (h : Ek K mg x C) (s : PySem.W.kitOne K (.ref C) cv = some b) : ∀ C', mg x = some (.ref C') → ExcC K C' ∧ PySem.W.kitOne K (.ref C') cv = some b := fun C' h' => by
  rw [ek_only h h']
  exact ⟨h.ec, s⟩
theorem kit_c {C D : Addr} {b : Bool} (hd : PySem.W.hasDictIn K D = true) (tD : PySem.W.typeIn K (.ref D) = some (.type "type")) (s : PySem.W.subIn K (.ref C) (.ref D) = some b) (r : PySem.W.subIn K (.ref D) (.ref D) = some true) : PySem.W.kitOne K (.ref C) (.ref D) = some b := by
  unfold PySem.W.kitOne
  by_cases h : (Value.ref C == Value.ref D) = true
  · rw [if_pos h]
    have e : Value.ref C = Value.ref D := by simpa using h
    rw [e, r] at s
    exact s
  · rw [if_neg h]
    obtain ⟨cd, hc, _⟩ := PySem.W.any_some hd
    show (if ((PySem.W.clsIn K D).isSome && PySem.W.typeIn K (.ref D) == some (.type "type")) = true then PySem.W.subIn K (.ref C) (.ref D) else none) = some b
    rw [if_pos (by rw [hc, tD] <;> rfl)]
    exact s
theorem kit_b {C : Addr} {T : String} {b : Bool} (hk : PySem.W.kitMeta T = true) (s : PySem.W.subIn K (.ref C) (.type T) = some b) : PySem.W.kitOne K (.ref C) (.type T) = some b := by
  unfold PySem.W.kitOne
  rw [if_neg (by simp)]
  show (if PySem.W.kitMeta T = true then PySem.W.subIn K (.ref C) (.type T) else none) = some b
  rw [if_pos hk]
  exact s
theorem row_x {x : Str} {C : Addr} (h : Ek K mg x C) : ∀ C', mg x = some (.ref C') → XfC K C' ∧ PySem.W.findIn K (.ref C') "word" = some none ∧ PySem.W.findIn K (.ref C') "place" = some none := fun C' h' => by
  rw [ek_only h h']
  exact ⟨h.xf, h.er.nW, h.er.nP⟩
end
theorem all_n {α : Type} {P : α → Prop} : ∀ x ∈ ([] : List α), P x := fun _ h => by cases h
theorem all_c {α : Type} {P : α → Prop} {a : α} {l : List α} (h : P a) (hs : ∀ x ∈ l, P x) : ∀ x ∈ a :: l, P x := fun x hx => by
  rcases List.mem_cons.mp hx with rfl | hx
  · exact h
  · exact hs x hx
end Dn

namespace Dn
open PySem L2

/-! ## 43. Errors evaluated -/
theorem sRaise0_a (x : Str) (e : Sl) : sRaise0 x e = some (.ex ⟨x, xfs x .non⟩ e) := nr rfl
theorem sRaise_a (x : Str) (f : M O) (e : Sl) : sRaise x f e = @thn' _ _ (f e) ⟨fun o e' => some (.ex ⟨x, xfs x o.d⟩ e')⟩ := by
  unfold sRaise items items M.bind M.pure
  cases f e with
  | none => rfl
  | some r => cases r <;> rfl
/-- where a body's error goes -/
def HandP (c : Str → Option Bool) (i : Nat) (h : Addr → Addr → Exn → M Fl) [Q : PostE Fl] [X : PostE Exn] (x : Exn) (e : Sl) : Prop := match c x.cls with
  | some true => ∃ r, Suits i h x e r ∧ @EvC _ (some r) Q X
  | some false => X.run x e
  | none => False
def HandT (i : Nat) (h : Addr → Addr → Exn → M Fl) [Q : PostE Fl] [X : PostE Exn] (x : Exn) (e : Sl) : Prop := ∃ r, Suits i h x e r ∧ @EvC _ (some r) Q X
theorem Suits.one {i : Nat} {h : Addr → Addr → Exn → M Fl} {x : Exn} {e : Sl} {r r' : Ro Fl} (a : Suits i h x e r) (b : Suits i h x e r') : r = r' := by
  have := (a 0 0).symm.trans (b 0 0)
  injection this
theorem Ev_sTry {c : Str → Option Bool} {i : Nat} {b : M Fl} {h : Addr → Addr → Exn → M Fl} {e : Sl} {Q : PostE Fl} {X : PostE Exn} :
    @EvC _ (sTry c i b h e) Q X = @EvC _ (b e) Q ⟨fun x e' => HandP c i h x e'⟩ := by
  unfold sTry
  cases b e with
  | none => rfl
  | some r =>
    cases r with
    | ok a e' => rfl
    | ex x e' =>
      show _ = HandP c i h x e'
      unfold HandP
      dsimp only
      cases c x.cls with
      | none => rfl
      | some t =>
        cases t with
        | false => rfl
        | true =>
          dsimp only
          refine propext ⟨fun z => ?_, fun ⟨r, s, z⟩ => ?_⟩
          · by_cases hh : ∃ r, Suits i h x e' r
            · rw [dif_pos hh] at z
              exact ⟨_, hh.choose_spec, z⟩
            · rw [dif_neg hh] at z; exact z.elim
          · have hh : ∃ r, Suits i h x e' r := ⟨r, s⟩
            rw [dif_pos hh, hh.choose_spec.one s]
            exact z
theorem HandP_t {c : Str → Option Bool} {i : Nat} {h : Addr → Addr → Exn → M Fl} {x : Str} {fs : List (Str × D)} {e : Sl} {Q : PostE Fl} {X : PostE Exn} (hc : c x = some true) : @HandP c i h Q X ⟨x, fs⟩ e = @HandT i h Q X ⟨x, fs⟩ e := by
  unfold HandP HandT
  dsimp only
  rw [hc]
theorem HandP_f {c : Str → Option Bool} {i : Nat} {h : Addr → Addr → Exn → M Fl} {x : Str} {fs : List (Str × D)} {e : Sl} {Q : PostE Fl} {X : PostE Exn} (hc : c x = some false) : @HandP c i h Q X ⟨x, fs⟩ e = X.run ⟨x, fs⟩ e := by
  unfold HandP
  dsimp only
  rw [hc]
theorem HandT.of {i : Nat} {h : Addr → Addr → Exn → M Fl} {x : Exn} {e : Sl} {Q : PostE Fl} {X : PostE Exn} (fl : Fl) (E : Sl)
    (hs : ∀ a d, Ev (h a d x (e.set i (some (.exn a d x)))) (fun fl' e' => fl' = fl ∧ e'.set i none = E) (fun _ _ => False)) (q : Q.run fl E) : @HandT i h Q X x e := by
  refine ⟨.ok fl E, fun a d => ?_, q⟩
  obtain ⟨fl', e', h1, rfl, rfl⟩ := (hs a d).get
  rw [h1]; rfl
theorem eXf_p {cs : List Str} {a d : Addr} {x : Str} {u : D} {i : Nat} {e : Sl} (hx : x ∈ cs) (hg : getO e i = some (.exn a d ⟨x, xfs x u⟩)) : eXf cs a d ⟨x, xfs x u⟩ i (PySem.Str.ofString "place") e = some (.ok (.fr u) e) := by
  have he : e[i]? = some (some (.exn a d ⟨x, xfs x u⟩)) := by
    unfold getO at hg
    split at hg
    · rename_i o ho; cases hg; exact ho
    · cases hg
  unfold eXf
  rw [if_pos hx, he]
  show (if a = a ∧ d = d then _ else _) = _
  rw [if_pos ⟨rfl, rfl⟩]
  rfl
theorem eXf_w {cs : List Str} {a d : Addr} {x : Str} {u : D} {i : Nat} {e : Sl} (hx : x ∈ cs) (hg : getO e i = some (.exn a d ⟨x, xfs x u⟩)) : eXf cs a d ⟨x, xfs x u⟩ i (PySem.Str.ofString "word") e = some (.ok (.fr (.str x)) e) := by
  have he : e[i]? = some (some (.exn a d ⟨x, xfs x u⟩)) := by
    unfold getO at hg
    split at hg
    · rename_i o ho; cases hg; exact ho
    · cases hg
  unfold eXf
  rw [if_pos hx, he]
  show (if a = a ∧ d = d then _ else _) = _
  rw [if_pos ⟨rfl, rfl⟩]
  rfl
theorem eXi_a {l : List (Str × Bool)} {a d : Addr} {x : Str} {fs : List (Str × D)} {i : Nat} {e : Sl} {b : Bool} (hx : isaL l x = some b) (hg : getO e i = some (.exn a d ⟨x, fs⟩)) : eXi (isaL l) a d ⟨x, fs⟩ i e = some (.ok (bO b) e) := by
  have he : e[i]? = some (some (.exn a d ⟨x, fs⟩)) := by
    unfold getO at hg
    split at hg
    · rename_i o ho; cases hg; exact ho
    · cases hg
  unfold eXi
  rw [he]
  show (if a = a ∧ d = d then _ else _) = _
  rw [if_pos ⟨rfl, rfl⟩]
  dsimp only
  rw [hx]
  rfl
end Dn

namespace Dn
open PySem L2
open Evl (Ex)

/-! ## 44. list.count of a text -/
def rCntS (K : PySem.W.Frag) : V → List V → Hp → VK → Prop := fun x xs H Q => ∃ (p : Addr) (ys : List Str) (k : Str), x = .ref p ∧ xs = [.str k] ∧ SqL K H p (ys.map V.str) ∧ Q (.int (ys.count k : Nat)) H
theorem countIn_c (k : Str) : ∀ ys : List Str, PySem.Spec.countIn (.str k) (ys.map PyData.str) = ((ys.count k : Nat) : Int)
  | [] => rfl
  | y :: ys => by
    have ih := countIn_c k ys
    rw [List.map_cons, PySem.Spec.countIn, ih, List.count_cons]
    simp only [PySem.Spec.same]
    rcases Bool.eq_false_or_eq_true (y == k) with hb | hb <;> simp only [hb, Bool.false_eq_true, if_true, if_false] <;> push_cast <;> omega
theorem strsAre_of : ∀ {ys : List Str} {its : List Value}, Vals (ys.map V.str) its → PyProof.Rows.StrsAre its ys
  | [], _, .nil => .nil
  | y :: ys, _, .cons h hs => by
    obtain ⟨t, rfl⟩ := h
    exact .cons _ _ (strsAre_of hs)
section
variable {X : Cx}
theorem mt_lcountS : MtR X "list.count" (rCntS X.K) := by
  intro pins s σ H x xs v us Q I rx rxs h
  obtain ⟨p, ys, k, rfl, rfl, hs, q⟩ := h
  cases rx
  obtain ⟨u, rfl, ru⟩ := rxs.one
  obtain ⟨t, rfl⟩ := ru
  obtain ⟨its, rv, hl, hlen⟩ := I.list hs
  refine PyProof.Rows.count_list_strs (vs := its) hl.isList (strsAre_of rv) ?_
  rw [countIn_c]
  exact ⟨.int (ys.count k : Nat), H, I.tok _, ⟨s.toks, rfl⟩, q⟩
end
def gLCount : List D → Option O
  | [.lst ds, .str k] => (strsD ds).map fun ys => iO (ys.count k : Nat)
  | _ => none
theorem strsD_of : ∀ {ds : List D} {ys : List Str}, strsD ds = some ys → ds = ys.map D.str
  | [], _, h => by cases h; rfl
  | d :: ds, ys, h => by
    cases d with
    | str b =>
      obtain ⟨zs, h1, rfl⟩ := Option.map_eq_some_iff.mp (show (strsD ds).map (b :: ·) = some ys from h)
      rw [strsD_of h1]; rfl
    | _ => cases h
theorem n_lcount {K : PySem.W.Frag} : SndM K (rCntS K) gLCount := fun B H x vs a ds o hx ha hr hg Q q => by
  unfold gLCount at hg
  split at hg
  · rename_i _ ls k e
    injection e with e1 e2
    subst e1 e2
    obtain ⟨ys, h1, rfl⟩ := Option.map_eq_some_iff.mp hg
    have e3 := strsD_of h1
    subst e3
    obtain ⟨p, xs, rfl, h2, h3⟩ := ha
    obtain ⟨y, rfl, h4⟩ := hr.one
    cases h4
    have e4 := repL_of_strs h3
    subst e4
    exact ⟨p, ys, k, rfl, rfl, Evl.sq_of h2, q.fr hx (.int _)⟩
  · cases hg
section
variable {X : Cx} {W : WX} {o e : Expr} {p q : P} {G : List D → Option O} {id : String} {name : Str} {apos pos : Pos} {r : V → List V → Hp → VK → Prop}
theorem d_lm1 (slot : Slot "list" name id) (ty : typeOf (.builtin id) = pure (.type "method_descriptor")) (rule : MtR X id r) (hs : SndM X.K r G) (ho : PE X o (tP X.K X.mg W p)) (he : PE X e (tP X.K X.mg W q))
    (hbase : attributeBase o name X.env (eval o X.env) = eval o X.env := by rfl)
    (hfew : ((backTo pos (starEach [e] X.env)).all (fun x => !x.1) && (backToKw pos (keywordEach [] X.env)).all (fun x => x.1.isSome)
      && decide (([e] : List Expr).length + ([] : List Keyword).length + (if ([] : List Keyword).isEmpty then 0 else 1) < 30)) = true := by rfl)
    (hline : (apos.endLine == pos.line) = true := by rfl) (hst : starEach [e] X.env = (false, eval e X.env) :: starEach [] X.env := by rfl) (hpl : (backTo pos (starEach [] X.env)).any (·.1) = false := by rfl) :
    PE X (.Call (.Attribute o name apos) [e] [] pos) (tE X.K X.mg W (apM isLst G p [q])) := pe_imp (pe_bm PySem.F.plainAttrs_list slot ty rule ho (pa_c he pa_n hst) hbase hfew hline hst hpl) fun σ H Q h => apM_run (fun B H v d _ h c => chk_lst h c) hs h
end
theorem gLCount_s {ys : List Str} {k : Str} : gLCount [.lst (ys.map D.str), .str k] = some (iO (ys.count k : Nat)) := by
  have : strsD (ys.map D.str) = some ys := by
    induction ys with
    | nil => rfl
    | cons y ys ih => show (strsD (ys.map D.str)).map (y :: ·) = _; rw [ih]; rfl
  show (strsD _).map _ = _
  rw [this]; rfl
end Dn

namespace Dn
open PySem L2
open Evl (Ex)

/-! ## 45. Dicts of one's own -/
/-- {} -/
def eDct0 : M O := M.pure (.dct [] [])
def hasK (ks : List L2.Key) (k : L2.Key) : Bool := ks.any fun j => decide (j = k)
def putKs (ks : List L2.Key) (k : L2.Key) : List L2.Key := if hasK ks k then ks else ks ++ [k]
def replX : List L2.Key → List D → L2.Key → D → List D
  | j :: ks, d :: ds, k, x => (if j = k then x else d) :: replX ks ds k x
  | _, _, _, _ => []
def putXs (ks : List L2.Key) (xs : List D) (k : L2.Key) (x : D) : List D := if hasK ks k then replX ks xs k x else xs ++ [x]
/-- d[k] = v, d a dict of one's own -/
def sSetK (i : Nat) (fk fv : M O) : M Fl := fv.bind fun o e1 => match e1[i]? with
  | some (some (.dct _ _)) => (fk.bind fun k e => match e[i]? with
    | some (some (.dct ks xs)) => (match keyD k.d with
      | some kk => if ks.length < sizeLine then some (.ok .next (e.set i (some (.dct (putKs ks kk) (putXs ks xs kk o.d))))) else none
      | none => none)
    | _ => none) e1
  | _ => none
section
variable {K : PySem.W.Frag} {mg : Str → Option Value} {W : WX} {B B' H H' : Hp} {v : V} {o : O} {σ σ' : St} {e e' : Sl} {S S' : Nat → Addr → Prop} {T T' : Addr → Prop}
theorem hasK_any (k : L2.Key) (kv : List (L2.Key × V)) : (kv.any fun p => decide (p.1 = k)) = hasK (kv.map (·.1)) k := by
  unfold hasK
  rw [List.any_map]; rfl
theorem putK_ks (k : L2.Key) (v : V) (kv : List (L2.Key × V)) : (putK kv k v).map (·.1) = putKs (kv.map (·.1)) k := by
  unfold putK putKs
  rw [hasK_any]
  cases hasK (kv.map (·.1)) k with
  | true =>
    rw [if_pos rfl, if_pos rfl, List.map_map]
    refine List.map_congr_left fun p _ => ?_
    show (if p.1 = k then (p.1, v) else p).1 = p.1
    split <;> rfl
  | false => rw [if_neg Bool.noConfusion, if_neg Bool.noConfusion, List.map_append]; rfl
theorem repl_rep (k : L2.Key) {v : V} {d : D} (hv : Rep K B v d) : ∀ {kv : List (L2.Key × V)} {ks : List L2.Key} {ds : List D}, kv.map (·.1) = ks → RepL K B (kv.map (·.2)) ds → RepL K B ((kv.map fun p => if p.1 = k then (p.1, v) else p).map (·.2)) (replX ks ds k d)
  | [], _, ds, h, hr => by
    cases h
    cases ds <;> exact .nil
  | p :: kv, [], _, h, _ => by cases h
  | p :: kv, j :: ks, [], _, hr => by cases hr
  | p :: kv, j :: ks, d' :: ds, h, hr => by
    rw [List.map_cons] at h hr
    injection h with h1 h2
    cases hr with
    | cons hd hr =>
      rw [List.map_cons, List.map_cons]
      unfold replX
      refine .cons ?_ (repl_rep k hv h2 hr)
      have h1' : p.1 = j := h1
      by_cases ej : j = k
      · rw [if_pos ej, if_pos (h1'.trans ej)]; exact hv
      · rw [if_neg ej, if_neg (fun z => ej (h1'.symm.trans z))]; exact hd
theorem putK_xs (k : L2.Key) {v : V} {d : D} (hv : Rep K B v d) {kv : List (L2.Key × V)} {ks : List L2.Key} {ds : List D} (h : kv.map (·.1) = ks) (hr : RepL K B (kv.map (·.2)) ds) : RepL K B ((putK kv k v).map (·.2)) (putXs ks ds k d) := by
  unfold putK putXs
  rw [hasK_any, h]
  cases hasK ks k with
  | true => rw [if_pos rfl, if_pos rfl]; exact repl_rep k hv h hr
  | false =>
    rw [if_neg Bool.noConfusion, if_neg Bool.noConfusion, List.map_append]
    exact hr.append (.cons hv .nil)
theorem Rp.mutD (r : Rp K B H σ e S) {i : Nat} {l : Addr} {kv kv' : List (L2.Key × V)} {ks ks' : List L2.Key} {ds ds' : List D} (he : e[i]? = some (some (.dct ks ds))) (hσ : σ[i]? = some (some (.ref l))) (hl : H l = some (.dK kv)) (hk : kv'.map (·.1) = ks') (hr : RepL K B (kv'.map (·.2)) ds') :
    Rp K B (L2.upd H l (.dK kv')) σ (e.set i (some (.dct ks' ds'))) S ∧ Fr B H (tot S) B (L2.upd H l (.dK kv')) (tot S) := by
  obtain ⟨v, hv, p, ys, e1, h2, hk2, h3, h4⟩ := r.rep i _ he
  rw [hσ] at hv; cases hv
  cases e1
  have hS : S i l := (h4 l).mpr rfl
  have hb := (r.own i l hS).1
  have hlen : i < e.length := (List.getElem?_eq_some_iff.mp he).1
  refine ⟨⟨by rw [List.length_set]; exact r.len, fun a o ha => ?_, fun j o ho => ?_, r.dis, fun j a ha => ⟨(r.own j a ha).1, ?_⟩⟩, Fr.upd hl ⟨i, hS⟩⟩
  · rw [upd_ne (fun z => by subst z; rw [hb] at ha; cases ha)]; exact r.ex a o ha
  · by_cases hj : j = i
    · subst hj
      rw [List.getElem?_set_self hlen] at ho
      cases ho
      exact ⟨_, hσ, l, kv', rfl, upd_same, hk, hr, h4⟩
    · rw [List.getElem?_set_ne (Ne.symm hj)] at ho
      obtain ⟨v, a1, a2⟩ := r.rep j o ho
      refine ⟨v, a1, ?_⟩
      cases o with
      | fr d => exact a2
      | lst es =>
        obtain ⟨q, zs, b1, b2, b3, b4⟩ := a2
        refine ⟨q, zs, b1, ?_, b3, b4⟩
        rw [upd_ne (fun z => by subst z; exact hj (r.dis j i q ((b4 q).mpr rfl) hS))]
        exact b2
      | dct es fs =>
        obtain ⟨q, zs, b1, b2, bk, b3, b4⟩ := a2
        refine ⟨q, zs, b1, ?_, bk, b3, b4⟩
        rw [upd_ne (fun z => by subst z; exact hj (r.dis j i q ((b4 q).mpr rfl) hS))]
        exact b2
      | ins c ns es =>
        obtain ⟨q, C, dx, zs, b1, b2, bc, bk, b3, b4⟩ := a2
        refine ⟨q, C, dx, zs, b1, ?_, bc, bk, b3, b4⟩
        rw [upd_ne (fun z => by subst z; exact hj (r.dis j i q ((b4 q).mpr rfl) hS))]
        exact b2
      | exn a d x => exact a2
  · by_cases hp : a = l
    · exact ⟨_, by rw [hp]; exact upd_same⟩
    · obtain ⟨_, o, h⟩ := r.own j a ha
      exact ⟨o, by rw [upd_ne hp]; exact h⟩
end
section
variable {X : Cx} {W : WX} {e k g2 : Expr} {pos p p2 : Pos} {f g h3 : M O} {q : P} {ks : List Nat} {i : Nat} {x : Str}
theorem d_dct0 : PE X (.Dict [] [] pos) (tE X.K X.mg W eDct0) := pe_imp pe_dnewK fun σ H Q h => by
  obtain ⟨B, e, S, r, h⟩ := h
  intro p hp
  have g := Gr.own r.ex hp (.dK [])
  refine (show ∀ v B' H' S' T, Vl X.K B' H' σ e S' v (.dct [] []) T → Fr B H (tot S) B' H' (fun a => T a ∨ tot S' a) → Q v H' from h) (.ref p) B _ S (fun a => a = p) ⟨r.grow g, ⟨p, [], rfl, upd_same, rfl, .nil, fun a => Iff.rfl⟩, fun a e => ?_, fun a e ⟨j, hj⟩ => ?_⟩ ⟨g.b, fun a o q _ => g.h a o q, fun a z => z.elim (fun z => .inr (by rw [z]; exact hp)) .inl, fun a u q => (g.c a u q).elim .inl fun z => .inr (.inr z), fun a u q => ⟨u, g.h a u q⟩⟩
  · subst e
    refine ⟨?_, _, upd_same⟩
    cases q : B a with
    | none => rfl
    | some u => have := r.ex a u q; rw [hp] at this; cases this
  · subst e
    obtain ⟨_, u, hu⟩ := r.own j a hj
    rw [hp] at hu; cases hu
def rSetDk : V → V → V → Hp → (Hp → Prop) → Prop := fun o i v H Q => ∃ p kv k, o = .ref p ∧ i = kV k ∧ H p = some (.dK kv) ∧ kv.length < sizeLine ∧ Q (L2.upd H p (.dK (putK kv k v)))
theorem set_dk (hu : X.A.units + 1 < cLine) : PSet X rSetDk := by
  intro pins s σ H o i v ov iv u Q I ro ri rv h
  obtain ⟨p, kv, k, rfl, rfl, hp, hl, q⟩ := h
  cases ro
  exact d_setItem hu I (DPut.k hp hl) ri rv fun s' I' => ⟨_, I', q⟩
theorem s_setK (hu : X.A.units + 64 < cLine) (hv : PE X (.Name x p) (tVar i)) (hk : PE X k (tE X.K X.mg W f)) (he : PE X e (tE X.K X.mg W g))
    (ha : ∀ v, assign (.Subscript (.Name x p) k p2) X.env v = (do
      let ov ← holding [v] (eval (.Name x p) X.env)
      let iv ← holding [v, ov] (eval k X.env)
      standAt p2
      holding [v, ov, iv] (setItem ov iv v)
      release [v, ov, iv] []) := by intro _; rfl)
    (hs : swapsWithSole [.Subscript (.Name x p) k p2] e pos.line X.env = pure false := by rfl) (hw : swappedStores [.Subscript (.Name x p) k p2] e X.env = pure none := by rfl)
    (h1 : (assignEach [.Subscript (.Name x p) k p2] X.env).map (·.2) = [assign (.Subscript (.Name x p) k p2) X.env] := by rfl) :
    PS X (.Assign [.Subscript (.Name x p) k p2] e pos) (tS X.K X.mg W ks (sSetK i f g)) := ps_imp (ps_asg he (pg_sub hv hk (set_dk (by omega)) ha) hs hw h1) fun D σ H h => by
  obtain ⟨B, e, S, r, h⟩ := h
  refine ⟨B, e, S, r, h.bind.imp (fun o e1 h v1 B1 H1 S1 T vl f1 => ?_) fun _ _ z => ExS.toE z⟩
  obtain ⟨B2, vl2, f2⟩ := vl.freeze
  have f3 := fz_fr f1 f2
  cases q : e1[i]? with
  | none => rw [q] at h; exact h.elim
  | some u =>
    cases u with
    | none => rw [q] at h; exact h.elim
    | some o1 =>
      rw [q] at h
      cases o1 with
      | fr d => exact h.elim
      | lst _ => exact h.elim
      | ins _ _ _ => exact h.elim
      | exn _ _ _ => exact h.elim
      | dct ks0 ds0 =>
        obtain ⟨v, hv, l, ys, ev, _, _, _, _⟩ := vl2.rp.rep i _ q
        subst ev
        refine ⟨_, hv, B2, e1, S1, vl2.rp, (show Post (M.bind f _ e1) _ _ from h).bind.imp (fun ko e2 h v2 B3 H3 S3 T3 vl3 f4 => ?_) fun x e2 z => ExS.toE (ExS.step z (Kp.refl _ _) f3)⟩
        cases q1 : e2[i]? with
        | none => rw [q1] at h; exact h.elim
        | some u1 =>
          cases u1 with
          | none => rw [q1] at h; exact h.elim
          | some o1 =>
            rw [q1] at h
            cases o1 with
            | fr d => exact h.elim
            | lst _ => exact h.elim
            | ins _ _ _ => exact h.elim
            | exn _ _ _ => exact h.elim
            | dct ks1 ds1 =>
              dsimp only at h
              cases hk : keyD ko.d with
              | none => rw [hk] at h; exact h.elim
              | some kk =>
                rw [hk] at h
                dsimp only at h
                by_cases hl : ks1.length < sizeLine
                · rw [if_pos hl] at h
                  obtain ⟨B4, vl4, f5⟩ := vl3.freeze
                  have f6 := fz_fr f4 f5
                  obtain ⟨v', hv', p', kv', e1', k2, kk2, k3, k4⟩ := vl4.rp.rep i _ q1
                  rw [hv] at hv'; cases hv'
                  cases e1'
                  obtain ⟨r5, f7⟩ := vl4.rp.mutD q1 hv k2 (kv' := putK kv' kk v1) (ks' := putKs ks1 kk) (by rw [putK_ks, kk2]) (putK_xs kk (vl2.ro.1.mono f6.b) kk2 k3)
                  exact ⟨_, kv', kk, rfl, keyD_v hk (vl4.ro.1.rd vl4.rp.ex), k2, by rw [← kk2, List.length_map] at hl; exact hl, (show Nd X.K D ks B H S σ .next _ from h) σ B4 _ S3 r5 (Kp.refl _ _) ((f3.trans f6).trans f7)⟩
                · rw [if_neg hl] at h; exact h.elim
/-! d.get(k), d.get(k, x) -/
def isDct : D → Bool
  | .dct _ _ => true
  | _ => false
def gGet1 : List D → Option O
  | [.dct ks xs, x] => (keyD x).map fun k => .fr ((getK ks xs k).getD .non)
  | _ => none
def gGet2 : List D → Option O
  | [.dct ks xs, x, y] => (keyD x).map fun k => match getK ks xs k with
    | some d => .fr d
    | none => .fr y
  | _ => none
theorem chk_dct {K : PySem.W.Frag} {H : Hp} {B : Hp} {v : V} {d : D} (h : Rd K B H v d) (hc : isDct d = true) : ∃ a, v = .ref a ∧ IsD H a := by
  cases d with
  | dct ks xs => obtain ⟨a, kv, rfl, h1, _⟩ := h; exact ⟨a, rfl, .inl ⟨kv, .inl h1⟩⟩
  | _ => cases hc
theorem getK_none {K : PySem.W.Frag} {B : Hp} {k : L2.Key} {kv : List (L2.Key × V)} {ks : List L2.Key} {ds : List D} (h : kv.map (·.1) = ks) (hr : RepL K B (kv.map (·.2)) ds) (e : getK ks ds k = none) : valV kv k = none := by
  have := getK_val (k := k) h hr
  rw [e] at this
  cases q : valV kv k with
  | none => rfl
  | some v => rw [q] at this; cases this
theorem n_get1 {K : PySem.W.Frag} : SndM K (fun x vs H Q => ∃ a y o, x = .ref a ∧ vs = [y] ∧ DGet H a y o ∧ Q (o.getD .non) H) gGet1 := fun B H x vs a ds o hx ha hr hg Q q => by
  unfold gGet1 at hg
  split at hg
  · rename_i h; cases h
    obtain ⟨k, hk, rfl⟩ := Option.map_eq_some_iff.mp hg
    obtain ⟨y, rfl, hy⟩ := hr.one
    obtain ⟨p, kv, rfl, h1, h2, h3⟩ := ha
    refine ⟨p, y, _, rfl, rfl, by rw [keyD_v hk hy]; exact DGet.k h1, ?_⟩
    rename_i ks xs _
    cases e : getK ks xs k with
    | none =>
      rw [getK_none h2 h3 e]
      rw [e] at q
      exact q.fr hx .non
    | some d =>
      obtain ⟨v, e1, e2⟩ := getK_rep h2 h3 e
      rw [e1]
      rw [e] at q
      exact q.fr hx e2
  · cases hg
def gGet2' : List D → Option O
  | [a, b, .int i] => gGet2 [a, b, .int i]
  | [a, b, .non] => gGet2 [a, b, .non]
  | _ => none
theorem n_get2 {K : PySem.W.Frag} : SndM K (fun x vs H Q => ∃ a y z o, x = .ref a ∧ vs = [y, z] ∧ DGet H a y o ∧ Q (o.getD z) H) gGet2' := fun B H x vs a ds o hx ha hr hg Q q => by
  have key : ∀ (b c : D), ds = [b, c] → gGet2 [a, b, c] = some o → (∀ u, Rd K B H u c → Rep K B u c) → ∃ a y z o, x = .ref a ∧ vs = [y, z] ∧ DGet H a y o ∧ Q (o.getD z) H := by
    intro b c e hg2 hc
    subst e
    unfold gGet2 at hg2
    split at hg2
    · rename_i ks xs b' c' h; cases h
      obtain ⟨k, hk, rfl⟩ := Option.map_eq_some_iff.mp hg2
      obtain ⟨y, z, rfl, hy, hz⟩ := RdL.two hr
      obtain ⟨p, kv, rfl, h1, h2, h3⟩ := ha
      refine ⟨p, y, z, _, rfl, rfl, by rw [keyD_v hk hy]; exact DGet.k h1, ?_⟩
      cases e : getK ks xs k with
      | none =>
        rw [getK_none h2 h3 e]
        rw [e] at q
        exact q.fr hx (hc _ hz)
      | some d =>
        obtain ⟨v, e1, e2⟩ := getK_rep h2 h3 e
        rw [e1]
        rw [e] at q
        exact q.fr hx e2
    · cases hg2
  unfold gGet2' at hg
  split at hg
  · rename_i h; cases h
    exact key _ _ rfl hg fun u hu => hu
  · rename_i h; cases h
    exact key _ _ rfl hg fun u hu => hu
  · cases hg
theorem tPs1 {K : PySem.W.Frag} {mg : Str → Option Value} {W : WX} {q : P} {σ : St} {H : Hp} {Q : List V → Hp → Prop} : tPs K mg W [q] σ H Q = tP K mg W q σ H fun y H2 => Q [y] H2 := rfl
theorem d_get1 {o e : Expr} {p q : P} {apos cpos : Pos} (hu : X.A.units + 64 < cLine) (ho : PE X o (tP X.K X.mg W p)) (he : PE X e (tP X.K X.mg W q)) (m : M1 X o "get" apos e cpos) :
    PE X (.Call (.Attribute o "get" apos) [e] [] cpos) (tE X.K X.mg W (apM isDct gGet1 p [q])) := pe_imp (pe_dget1 (by omega) ho he m) fun σ H Q h => by
  have := apM_run (C := fun v H => ∃ a, v = .ref a ∧ IsD H a) (fun B H v d _ h c => chk_dct h c) n_get1 h
  refine tP_mono _ _ _ _ _ (fun x H1 t => ?_) this
  obtain ⟨⟨a, rfl, hd⟩, t⟩ := t
  refine ⟨a, rfl, hd, ?_⟩
  refine tP_mono q _ _ _ _ (fun y H2 t => ?_) t
  obtain ⟨a', y', o, e1, e2, g, qq⟩ := t
  cases e1; cases e2
  exact ⟨o, g, qq⟩
theorem d_get2 {o e f : Expr} {p q r : P} {apos cpos : Pos} (hu : X.A.units + 64 < cLine) (ho : PE X o (tP X.K X.mg W p)) (he : PE X e (tP X.K X.mg W q)) (hf : PE X f (tP X.K X.mg W r)) (m : M2 X o "get" apos e f cpos) :
    PE X (.Call (.Attribute o "get" apos) [e, f] [] cpos) (tE X.K X.mg W (apM isDct gGet2' p [q, r])) := pe_imp (pe_dget2 (by omega) ho he hf m) fun σ H Q h => by
  have := apM_run (C := fun v H => ∃ a, v = .ref a ∧ IsD H a) (fun B H v d _ h c => chk_dct h c) n_get2 h
  refine tP_mono _ _ _ _ _ (fun x H1 t => ?_) this
  obtain ⟨⟨a, rfl, hd⟩, t⟩ := t
  refine ⟨a, rfl, hd, ?_⟩
  refine tP_mono q _ _ _ _ (fun y H2 t => ?_) t
  refine tP_mono r _ _ _ _ (fun z H3 t => ?_) t
  obtain ⟨a', y', z', o, e1, e2, g, qq⟩ := t
  cases e1; cases e2
  exact ⟨o, g, qq⟩
/-! a dict of the module, texts to whole numbers -/
def tabGet : List (Str × Int) → Str → Option Int
  | [], _ => none
  | (y, i) :: l, z => if y = z then some i else tabGet l z
structure KTab (K : PySem.W.Frag) (w : World) (mg : Str → Option Value) (x : Str) (l : List (Str × Int)) : Prop where
  ex : ∃ (a : Addr) (es : Array DictEntry) (n : Nat), mg x = some (.ref a) ∧ K.lookup a = some ⟨.type "dict", none, .dict es n, #[]⟩ ∧ PySem.W.KeysLit w.params es.toList ∧ (a == sysModules) = false ∧
    ∀ z, ∃ r, PySem.W.nsIn K a z = some r ∧ (match tabGet l z with
      | some i => ∃ t, r = some (.int i t)
      | none => r = none)
def gTab (l : List (Str × Int)) : List D → Option O
  | [.str z, .int j] => some (iO ((tabGet l z).getD j))
  | _ => none
theorem d_tabGet {l : List (Str × Int)} {x : Str} {e f : Expr} {p q : P} {apos cpos np : Pos} (T : KTab X.K X.w X.mg x l) (he : PE X e (tP X.K X.mg W p)) (hf : PE X f (tP X.K X.mg W q)) (m : M2 X (.Name x np) "get" apos e f cpos) (hg : Gl X x) (hdb : (x == ("__debug__" : Str)) = false := by decide) :
    PE X (.Call (.Attribute (.Name x np) "get" apos) [e, f] [] cpos) (tE X.K X.mg W (ap (gTab l) [p, q])) := by
  obtain ⟨a, es, n, hm, hl, hk, lo, hz⟩ := T.ex
  have hn : PE X (.Name x np) (tC (.ref a)) := pe_glob hg hm rfl hdb
  refine ⟨fun pins s σ H Q I h => ?_⟩
  have h2 := apN_run (K := X.K) (mg := X.mg) (W := W) (r := fun vs H Q => ∃ z j, vs = [.str z, .int j] ∧ Q (.int ((tabGet l z).getD j)) H) (g := gTab l) (ps := [p, q]) (fun B H vs ds o hx hr hg Q q => by
    unfold gTab at hg
    split at hg
    · cases hg
      obtain ⟨y, z, rfl, hy, hz⟩ := RdL.two hr
      cases hy; cases hz
      exact ⟨_, _, rfl, q.fr hx (.int _)⟩
    · cases hg) Q h
  refine wpAny_Call_method m.base m.few m.line PySem.F.plainAttrs_dict PySem.F.slot_dict_get PySem.F.type_dict_get (thn (hn.run pins s σ H _ I (show tC (.ref a) σ H fun x H1 => x = .ref a ∧ tPs X.K X.mg W [p, q] σ H1 fun vs H2 => ∃ z j, vs = [.str z, .int j] ∧ Q (.int ((tabGet l z).getD j)) H2 from ⟨rfl, h2⟩)) fun u s1 ⟨x, H1, I1, rx, ex, q1⟩ => ?_)
  subst ex
  obtain rfl : u = Value.ref a := rx
  have hm1 := PySem.W.mapOf_K (prog := X.prog) (w := X.w) I1.kIn hl hk
  refine ⟨hm1.typeIs, fun b q => ?_, ?_⟩
  · cases q
    obtain ⟨ob, _, _, h1, h2, _⟩ := hm1
    exact ⟨ob, h1, h2.2.1⟩
  rw [m.trees]
  refine Calls.callWith_builtin rfl (Calls.evalArgs_plain (Calls.spliced_cons (thn (he.run pins s1 σ H1 _ I1 q1) fun iv s2 ⟨y, H2, I2, ry, q2⟩ =>
    Calls.spliced_cons (thn (hf.run pins s2 σ H2 _ I2 q2) fun fv s3 ⟨zz, H3, I3, rz, z, j, ev, q3⟩ => Calls.spliced_nil ?_))))
  cases ev
  obtain ⟨t1, rfl⟩ := ry
  obtain ⟨t2, rfl⟩ := rz
  have hm3 := PySem.W.mapOf_K (prog := X.prog) (w := X.w) I3.kIn hl hk
  obtain ⟨r, hr, hr2⟩ := hz z
  refine call_meetsIn PySem.F.slot_dict_get hm3.typeIs PySem.F.entry_dict_get (PySem.F.args_dict_get_3 _ _ _) (meets_dict_get_default (strKind X.prog X.w) a (strKind_is X.prog X.w z t1) lo (.int j t2)) ⟨_, hm3, ?_⟩
  rw [PySem.W.find_K hl hr]
  cases e : tabGet l z with
  | none =>
    rw [e] at hr2 q3
    subst hr2
    exact ⟨.int j, H3, I3.tok _, ⟨t2, rfl⟩, q3⟩
  | some i =>
    rw [e] at hr2 q3
    obtain ⟨t3, rfl⟩ := hr2
    exact ⟨.int i, H3, I3.tok _, ⟨t3, rfl⟩, q3⟩
end
/-- the entries of a dict that the module has written -/
inductive TabE (P : Params) : List DictEntry → List (Str × Int) → Prop
  | nil : TabE P [] []
  | cons {e : DictEntry} {es : List DictEntry} {x : Str} {i : Int} {l : List (Str × Int)} : (∃ t, e.key = .str x t) → (∃ t, e.val = .int i t) → e.hash = PyData.keyHash P x → TabE P es l → TabE P (e :: es) ((x, i) :: l)
theorem TabE.lit {P : Params} : ∀ {es : List DictEntry} {l : List (Str × Int)}, TabE P es l → PySem.W.KeysLit P es
  | _, _, .nil => trivial
  | _, _, .cons ⟨t, h1⟩ _ h3 h4 => ⟨⟨_, t, h1, h3⟩, h4.lit⟩
theorem TabE.any {P : Params} : ∀ {es : List DictEntry} {l : List (Str × Int)}, TabE P es l → es.any (·.refKey) = false
  | _, _, .nil => rfl
  | _, _, .cons (e := e) ⟨t, h1⟩ _ h3 h4 => by
    rw [List.any_cons, h4.any, Bool.or_false]
    unfold DictEntry.refKey
    rw [h1]
theorem TabE.find {P : Params} (z : Str) : ∀ {es : List DictEntry} {l : List (Str × Int)}, TabE P es l → match tabGet l z with
    | some i => ∃ e t, es.find? (·.key.isStr z) = some e ∧ e.val = .int i t
    | none => es.find? (·.key.isStr z) = none
  | _, _, .nil => rfl
  | _, _, .cons (e := e) (x := x) (i := i) (l := l) (es := es) ⟨t, h1⟩ ⟨u, h2⟩ h3 h4 => by
    have hs : e.key.isStr z = decide (x = z) := by
      rw [h1]
      show (x == z) = _
      by_cases h : x = z
      · rw [decide_eq_true h]; exact beq_iff_eq.mpr h
      · rw [decide_eq_false h]; exact beq_eq_false_iff_ne.mpr h
    have ih := TabE.find z h4
    unfold tabGet
    by_cases h : x = z
    · rw [if_pos h]
      refine ⟨e, u, ?_, h2⟩
      rw [List.find?_cons, hs, decide_eq_true h]
    · rw [if_neg h]
      have e2 : (e :: es).find? (·.key.isStr z) = es.find? (·.key.isStr z) := by rw [List.find?_cons, hs, decide_eq_false h]
      rw [e2]
      exact ih
theorem ktab_mk {K : PySem.W.Frag} {w : World} {mg : Str → Option Value} {x : Str} {l : List (Str × Int)} {a : Addr} {es : Array DictEntry} {n : Nat} (hm : mg x = some (.ref a)) (hl : K.lookup a = some ⟨.type "dict", none, .dict es n, #[]⟩) (lo : (a == sysModules) = false) (hT : TabE w.params es.toList l) : KTab K w mg x l :=
  ⟨a, es, n, hm, hl, hT.lit, lo, fun z => by
    have h := hT.find z
    unfold PySem.W.nsIn
    rw [hl]
    dsimp only
    cases e : tabGet l z with
    | none =>
      rw [e] at h
      dsimp only at h ⊢
      rw [h]
      dsimp only
      rw [hT.any]
      exact ⟨none, rfl, rfl⟩
    | some i =>
      rw [e] at h
      obtain ⟨en, t, h1, h2⟩ := h
      rw [h1]
      exact ⟨some en.val, rfl, t, by rw [h2]⟩⟩
/-! evaluated -/
theorem eDct0_a (e : Sl) : eDct0 e = some (.ok (.dct [] []) e) := nr rfl
theorem gTab_q {l : List (Str × Int)} {z : Str} {j : Int} : gTab l [.str z, .int j] = some (iO ((tabGet l z).getD j)) := nr rfl
theorem gIx_ds {ks : List L2.Key} {xs : List D} {z : Str} : gIx [.dct ks xs, .str z] = (getK ks xs (.inr z)).map .fr := nr rfl
theorem gIx_di {ks : List L2.Key} {xs : List D} {i : Int} : gIx [.dct ks xs, .int i] = (getK ks xs (.inl i)).map .fr := nr rfl
theorem gIn_ds {ks : List L2.Key} {xs : List D} {z : Str} : gIn [.str z, .dct ks xs] = some (bO (getK ks xs (.inr z)).isSome) := nr rfl
theorem gNotIn_ds {ks : List L2.Key} {xs : List D} {z : Str} : gNotIn [.str z, .dct ks xs] = some (bO (!(getK ks xs (.inr z)).isSome)) := nr rfl
theorem gIn_di {ks : List L2.Key} {xs : List D} {i : Int} : gIn [.int i, .dct ks xs] = some (bO (getK ks xs (.inl i)).isSome) := nr rfl
theorem gNotIn_di {ks : List L2.Key} {xs : List D} {i : Int} : gNotIn [.int i, .dct ks xs] = some (bO (!(getK ks xs (.inl i)).isSome)) := nr rfl
theorem gGet1_s {ks : List L2.Key} {xs : List D} {z : Str} : gGet1 [.dct ks xs, .str z] = some (.fr ((getK ks xs (.inr z)).getD .non)) := nr rfl
theorem gGet1_i {ks : List L2.Key} {xs : List D} {i : Int} : gGet1 [.dct ks xs, .int i] = some (.fr ((getK ks xs (.inl i)).getD .non)) := nr rfl
theorem sSetK_a (i : Nat) (fk fv : M O) (e : Sl) : sSetK i fk fv e = @thn' _ _ (fv e) ⟨fun o e1 => (match getO e1 i with
    | some (.dct _ _) => @thn' _ _ (fk e1) ⟨fun k e2 => (match getO e2 i with
      | some (.dct ks xs) => (match keyD k.d with
        | some kk => if ks.length < sizeLine then some (.ok .next (e2.set i (some (.dct (putKs ks kk) (putXs ks xs kk o.d))))) else none
        | none => none)
      | _ => none)⟩
    | _ => none)⟩ := by
  unfold sSetK
  show @thn' _ _ (fv e) ⟨_⟩ = _
  refine thn_congr fun o e1 => ?_
  unfold getO
  cases e1[i]? with
  | none => rfl
  | some u => cases u with
    | none => rfl
    | some o => cases o with
      | dct _ _ =>
        show @thn' _ _ (fk e1) ⟨_⟩ = _
        refine thn_congr fun k e2 => ?_
        cases e2[i]? with
        | none => rfl
        | some u => cases u with
          | none => rfl
          | some o => cases o <;> rfl
      | _ => rfl
/-- a display {k: v, ..} of written keys -/
def dispL (ks : List L2.Key) (xs : List D) : List (L2.Key × D) → O
  | [] => .dct ks xs
  | (k, x) :: r => dispL (putKs ks k) (putXs ks xs k x) r
def eDisp (ns : List L2.Key) (fs : List (M O)) : M O := (items fs).bind fun ds => M.pure (dispL [] [] (ns.zip ds))
section
variable {K : PySem.W.Frag} {mg : Str → Option Value} {W : WX} {σ : St}
theorem pairs_run : ∀ (ns : List L2.Key) (fs : List (M O)) {B H : Hp} {e : Sl} {S : Nat → Addr → Prop} (Q : List (V × V) → Hp → Prop), ns.length = fs.length → Rp K B H σ e S →
    Post (items fs e) (fun ds e' => ∀ vs B' H' S', Rp K B' H' σ e' S' → RepL K B' vs ds → Fr B H (tot S) B' H' (tot S') → Q ((ns.zip vs).map fun p => (kV p.1, p.2)) H') (fun x e' => ExE K mg W B H S σ x e') →
    tPairs ((ns.zip fs).map fun p => (tC (kV p.1), tE K mg W p.2)) σ H Q
  | [], [], B, H, e, S, Q, _, r, h => h [] B H S r .nil (Fr.refl _ _ _)
  | [], _ :: _, _, _, _, _, _, hl, _, _ => by cases hl
  | _ :: _, [], _, _, _, _, _, hl, _, _ => by cases hl
  | n :: ns, f :: fs, B, H, e, S, Q, hl, r, h => by
    unfold items at h
    show tE K mg W f σ H _
    refine ⟨B, e, S, r, h.bind.imp (fun o e1 h v B1 H1 S1 T vl f1 => ?_) fun _ _ z => z⟩
    obtain ⟨B2, vl2, f2⟩ := vl.freeze
    have f3 : Fr B H (tot S) B2 H1 (tot S1) := f1.trans ⟨f2.b, fun a o q _ => q, fun a z => .inl (.inr z), fun a u q => (f2.c a u q).elim .inl fun z => .inr (z.elim (fun z => .inl (.inl z)) .inr), fun a o q => ⟨o, q⟩⟩
    refine pairs_run ns fs _ (by rw [List.length_cons, List.length_cons] at hl; omega) vl2.rp (h.bind.imp (fun ds e' h vs B' H' S' r' rl f4 => ?_) fun x e' z => z.step f3)
    have h' : ∀ vs B' H' S', Rp K B' H' σ e' S' → RepL K B' vs (o.d :: ds) → Fr B H (tot S) B' H' (tot S') → Q (((n :: ns).zip vs).map fun p => (kV p.1, p.2)) H' := h
    exact h' _ B' H' S' r' (.cons (vl2.ro.1.mono f4.b) rl) (f3.trans f4)
theorem merge_rep {B : Hp} : ∀ (ns : List L2.Key) (vs : List V) (ds : List D) (kv : List (L2.Key × V)) (ks : List L2.Key) (xs : List D), RepL K B vs ds → kv.map (·.1) = ks → RepL K B (kv.map (·.2)) xs →
    ∃ ks' xs', dispL ks xs (ns.zip ds) = .dct ks' xs' ∧ (mergeK kv (ns.zip vs)).map (·.1) = ks' ∧ RepL K B ((mergeK kv (ns.zip vs)).map (·.2)) xs'
  | [], vs, ds, kv, ks, xs, _, h1, h2 => ⟨ks, xs, rfl, h1, h2⟩
  | n :: ns, [], [], kv, ks, xs, _, h1, h2 => ⟨ks, xs, rfl, h1, h2⟩
  | n :: ns, [], _ :: _, _, _, _, h, _, _ => by cases h
  | n :: ns, _ :: _, [], _, _, _, h, _, _ => by cases h
  | n :: ns, v :: vs, d :: ds, kv, ks, xs, h, h1, h2 => by
    cases h with
    | cons hv hvs =>
      have := merge_rep ns vs ds (putK kv n v) (putKs ks n) (putXs ks xs n d) hvs (by rw [putK_ks, h1]) (putK_xs n hv h1 h2)
      exact this
end
section
variable {X : Cx} {W : WX} {pos : Pos}
theorem d_disp {keys : List (Option Expr)} {values : List Expr} {ns : List L2.Key} {fs : List (M O)} (h : PPs X pos keys values ((ns.zip fs).map fun p => (tC (kV p.1), tE X.K X.mg W p.2))) (hl : ns.length = fs.length) (h15 : ns.length ≤ 15) (hall : keys.all (·.isSome) = true := by rfl) (hlk : keys.length = values.length := by rfl) (h0 : keys ≠ [] := by (intro z; cases z)) (hk15 : keys.length ≤ 15 := by decide) :
    PE X (.Dict keys values pos) (tE X.K X.mg W (eDisp ns fs)) := pe_imp (pe_disp h hall hlk h0 hk15) fun σ H Q h => by
  obtain ⟨B, e, S, r, h⟩ := h
  intro p hp
  have g := Gr.own r.ex hp (.dK [])
  have hnS : ∀ a, tot S a → a ≠ p := fun a ⟨j, hj⟩ z => by
    subst z
    obtain ⟨_, u, hu⟩ := r.own j a hj
    rw [hp] at hu; cases hu
  have hBp : B p = none := by
    cases q : B p with
    | none => rfl
    | some u => have := r.ex p u q; rw [hp] at this; cases this
  refine pairs_run ns fs _ hl (r.grow g) ((post_len h.bind).imp (fun ds e' h vs B' H' S' r' rl f => ?_) fun x e' z => ?_)
  · obtain ⟨h, hlen⟩ := h
    have hp2 : H' p = some (.dK []) := f.k p _ upd_same fun z => hnS p z rfl
    have hpS : ∀ j, ¬ S' j p := fun j hj => by
      rcases f.n p ⟨j, hj⟩ with z | z
      · exact hnS p z rfl
      · rw [upd_same] at z; cases z
    have hBp' : B' p = none := by
      cases q : B' p with
      | none => rfl
      | some u =>
        rcases f.c p u q with z | z | z
        · rw [hBp] at z; cases z
        · exact absurd rfl (hnS p z)
        · rw [upd_same] at z; cases z
    refine ⟨hp2, ns.zip vs, rfl, by rw [List.length_zip]; omega, ?_⟩
    obtain ⟨ks', xs', e1, e2, e3⟩ := merge_rep ns vs ds [] [] [] rl rfl .nil
    have h' : ∀ v B' H' S' T, Vl X.K B' H' σ e' S' v (dispL [] [] (ns.zip ds)) T → Fr B H (tot S) B' H' (fun a => T a ∨ tot S' a) → Q v H' := h
    rw [e1] at h'
    have r2 : Rp X.K B' (L2.upd H' p (.dK (mergeK [] (ns.zip vs)))) σ e' S' := by
      refine ⟨r'.len, fun a o ha => ?_, fun i o ho => ?_, r'.dis, fun i a ha => ⟨(r'.own i a ha).1, ?_⟩⟩
      · rw [upd_ne (fun z => by subst z; rw [hBp'] at ha; cases ha)]; exact r'.ex a o ha
      · obtain ⟨v, a1, a2⟩ := r'.rep i o ho
        refine ⟨v, a1, ?_⟩
        cases o with
        | fr d => exact a2
        | lst es =>
          obtain ⟨q, zs, b1, b2, b3, b4⟩ := a2
          exact ⟨q, zs, b1, by rw [upd_ne (fun z => by subst z; exact hpS i ((b4 q).mpr rfl))]; exact b2, b3, b4⟩
        | dct es fs =>
          obtain ⟨q, zs, b1, b2, bk, b3, b4⟩ := a2
          exact ⟨q, zs, b1, by rw [upd_ne (fun z => by subst z; exact hpS i ((b4 q).mpr rfl))]; exact b2, bk, b3, b4⟩
        | ins c ns es =>
          obtain ⟨q, C, dx, zs, b1, b2, bc, bk, b3, b4⟩ := a2
          exact ⟨q, C, dx, zs, b1, by rw [upd_ne (fun z => by subst z; exact hpS i ((b4 q).mpr rfl))]; exact b2, bc, bk, b3, b4⟩
        | exn a d x => exact a2
      · obtain ⟨_, u, hu⟩ := r'.own i a ha
        exact ⟨u, by rw [upd_ne (fun z => by subst z; exact hpS i ha)]; exact hu⟩
    refine h' (.ref p) B' _ S' (fun a => a = p) ⟨r2, ⟨p, _, rfl, upd_same, e2, e3, fun a => Iff.rfl⟩, fun a ha => by subst ha; exact ⟨hBp', _, upd_same⟩, fun a ha ⟨j, hj⟩ => by subst ha; exact hpS j hj⟩ ?_
    refine ⟨f.b, fun a o ho hs => ?_, fun a ha => ?_, fun a u hu => ?_, fun a o ho => ?_⟩
    · have hne : a ≠ p := fun z => by subst z; rw [hp] at ho; cases ho
      rw [upd_ne hne]
      exact f.k a o (by rw [upd_ne hne]; exact ho) hs
    · rcases ha with ha | ha
      · exact .inr (by rw [ha]; exact hp)
      · rcases f.n a ha with z | z
        · exact .inl z
        · by_cases hne : a = p
          · subst hne; rw [upd_same] at z; cases z
          · rw [upd_ne hne] at z; exact .inr z
    · rcases f.c a u hu with z | z | z
      · exact .inl z
      · exact .inr (.inl z)
      · by_cases hne : a = p
        · subst hne; rw [upd_same] at z; cases z
        · rw [upd_ne hne] at z; exact .inr (.inr z)
    · have hne : a ≠ p := fun z => by subst z; rw [hp] at ho; cases ho
      obtain ⟨o', ho'⟩ := f.a a o (by rw [upd_ne hne]; exact ho)
      exact ⟨o', by rw [upd_ne hne]; exact ho'⟩
  · exact z.step (g.fr _)
/-- dict(d): a copy -/
def gDictC : List D → Option O
  | [.dct ks xs] => some (.dct ks xs)
  | _ => none
theorem call_dictC : CallR X (.type "dict") (fun vs H Q => ∃ a kv, vs = [.ref a] ∧ H a = some (.dK kv) ∧ ∀ p, H p = none → Q (.ref p) (L2.upd H p (.dK kv))) := by
  intro pins s σ H xs us Q I r h
  obtain ⟨a, kv, rfl, ha, q⟩ := h
  cases r with
  | cons r1 r2 =>
    cases r2
    cases r1
    exact d_copyOf I (.inl ha) fun p s' hp I' => ⟨.ref p, _, I', rfl, q p hp⟩
theorem n_dictC {K : PySem.W.Frag} : SndN K (fun vs H Q => ∃ a kv, vs = [.ref a] ∧ H a = some (.dK kv) ∧ ∀ p, H p = none → Q (.ref p) (L2.upd H p (.dK kv))) gDictC := fun B H vs ds o hx hr hg Q q => by
  unfold gDictC at hg
  split at hg
  · cases hg
    obtain ⟨v, rfl, h⟩ := hr.one
    obtain ⟨a, kv, rfl, h1, h2, h3⟩ := h
    refine ⟨a, kv, rfl, h1, fun p hp => ?_⟩
    have g := Gr.own hx hp (.dK kv)
    refine q (.ref p) B _ (fun a => a = p) g ⟨p, kv, rfl, upd_same, h2, h3, fun a => Iff.rfl⟩ (fun a e => by rw [e]; exact hp) fun a e => ?_
    subst e
    refine ⟨?_, _, upd_same⟩
    cases q : B a with
    | none => rfl
    | some u => have := hx a u q; rw [hp] at this; cases this
  · cases hg
end
theorem eDisp_a (ns : List L2.Key) (fs : List (M O)) (e : Sl) : eDisp ns fs e = @thn' _ _ (items fs e) ⟨fun ds e' => some (.ok (dispL [] [] (ns.zip ds)) e')⟩ := nr rfl
theorem gDictC_d {ks : List L2.Key} {xs : List D} : gDictC [.dct ks xs] = some (.dct ks xs) := nr rfl
theorem dispL_n {ks : List L2.Key} {xs : List D} : dispL ks xs [] = .dct ks xs := nr rfl
theorem dispL_c {ks : List L2.Key} {xs : List D} {k : L2.Key} {x : D} {r : List (L2.Key × D)} : dispL ks xs ((k, x) :: r) = dispL (putKs ks k) (putXs ks xs k x) r := nr rfl
theorem isDct_d {ks : List L2.Key} {xs : List D} : isDct (.dct ks xs) = true := nr rfl
end Dn
namespace Dn
theorem bt_dict : PySem.bootBuiltins "dict" = some (.type "dict") := by decide +kernel
end Dn

namespace Dn
open PySem L2
open Evl (Ex)

/-! ## 46. Instances of the program's classes -/
def getF : List Str → List D → Str → Option D
  | n :: ns, d :: ds, f => if n = f then some d else getF ns ds f
  | _, _, _ => none
def putFn : List Str → Str → List Str
  | [], f => [f]
  | n :: ns, f => if n = f then n :: ns else n :: putFn ns f
def putFx : List Str → List D → Str → D → List D
  | n :: ns, d :: ds, f, x => if n = f then x :: ds else d :: putFx ns ds f x
  | _, _, _, x => [x]
/-- e.f -/
def gFld (c f : Str) : List D → Option O
  | [.ins c' ns xs] => if c' = c then (getF ns xs f).map .fr else none
  | _ => none
/-- x.f = e, x an instance of one's own -/
def sSetF (c f : Str) (i : Nat) (g : M O) : M Fl := g.bind fun o e => match e[i]? with
  | some (some (.ins c' ns xs)) => if c' = c ∧ ns.length < 1000 then some (.ok .next (e.set i (some (.ins c' (putFn ns f) (putFx ns xs f o.d))))) else none
  | _ => none
structure FldC (K : PySem.W.Frag) (c : Str) (fs : List Str) : Prop where
  ok : ∀ C, ClsN K c C → Cls K C ∧ ∀ f ∈ fs, NoAttr K C f
theorem ClsN.one {K : PySem.W.Frag} {c : Str} {C C' : Addr} (h : ClsN K c C) (h' : ClsN K c C') : C = C' := by
  unfold ClsN at h h'
  rw [h] at h'
  injection h' with h'
  injection h' with h'
  injection h' with h'
section
variable {K : PySem.W.Frag} {mg : Str → Option Value} {W : WX} {B B' H H' : Hp} {v : V} {o : O} {σ σ' : St} {e e' : Sl} {S S' : Nat → Addr → Prop} {T T' : Addr → Prop}
theorem getF_rep {f : Str} {d : D} : ∀ {fs : List (Str × V)} {ns : List Str} {ds : List D}, fs.map (·.1) = ns → RepL K B (fs.map (·.2)) ds → getF ns ds f = some d → ∃ v, fs.lookup f = some v ∧ Rep K B v d
  | [], [], ds, _, _, e => by cases ds <;> cases e
  | p :: fs, [], _, h, _, _ => by cases h
  | [], _ :: _, _, h, _, _ => by cases h
  | (g, x) :: fs, n :: ns, d' :: ds, h, hr, e => by
    rw [List.map_cons] at h hr
    injection h with h1 h2
    cases hr with
    | cons hd hr =>
      unfold getF at e
      have h1' : g = n := h1
      by_cases ej : n = f
      · rw [if_pos ej] at e
        cases e
        refine ⟨x, ?_, hd⟩
        rw [List.lookup_cons, show (f == g) = true from beq_iff_eq.mpr (h1'.trans ej).symm]
      · rw [if_neg ej] at e
        obtain ⟨v, e1, e2⟩ := getF_rep h2 hr e
        refine ⟨v, ?_, e2⟩
        rw [List.lookup_cons, show (f == g) = false from beq_eq_false_iff_ne.mpr fun z => ej (h1'.symm.trans z.symm)]
        exact e1
  | p :: fs, n :: ns, [], _, hr, _ => by cases hr
theorem putF_ns (f : Str) (v : V) : ∀ fs : List (Str × V), (putF f v fs).map (·.1) = putFn (fs.map (·.1)) f
  | [] => rfl
  | (g, x) :: fs => by
    show (if g = f then (g, v) :: fs else (g, x) :: putF f v fs).map (·.1) = if g = f then g :: fs.map (·.1) else g :: putFn (fs.map (·.1)) f
    by_cases h : g = f
    · rw [if_pos h, if_pos h]; rfl
    · rw [if_neg h, if_neg h, List.map_cons, putF_ns f v fs]
theorem putF_xs (f : Str) {v : V} {d : D} (hv : Rep K B v d) : ∀ {fs : List (Str × V)} {ns : List Str} {ds : List D}, fs.map (·.1) = ns → RepL K B (fs.map (·.2)) ds → RepL K B ((putF f v fs).map (·.2)) (putFx ns ds f d)
  | [], [], [], _, _ => .cons hv .nil
  | [], [], _ :: _, _, h => by cases h
  | p :: fs, [], _, h, _ => by cases h
  | [], _ :: _, _, h, _ => by cases h
  | p :: fs, n :: ns, [], _, hr => by cases hr
  | (g, x) :: fs, n :: ns, d' :: ds, h, hr => by
    rw [List.map_cons] at h hr
    injection h with h1 h2
    cases hr with
    | cons hd hr =>
      have h1' : g = n := h1
      show RepL K B ((if g = f then (g, v) :: fs else (g, x) :: putF f v fs).map (·.2)) (if n = f then d :: ds else d' :: putFx ns ds f d)
      by_cases ej : n = f
      · rw [if_pos ej, if_pos (h1'.trans ej)]; exact .cons hv hr
      · rw [if_neg ej, if_neg (fun z => ej (h1'.symm.trans z))]; exact .cons hd (putF_xs f hv h2 hr)
theorem Rp.mutI (r : Rp K B H σ e S) {i : Nat} {l C dx : Addr} {c : Str} {fs fs' : List (Str × V)} {ns ns' : List Str} {ds ds' : List D} (he : e[i]? = some (some (.ins c ns ds))) (hσ : σ[i]? = some (some (.ref l))) (hl : H l = some (.ins C dx fs)) (hc : ClsN K c C) (hk : fs'.map (·.1) = ns') (hr : RepL K B (fs'.map (·.2)) ds') :
    Rp K B (L2.upd H l (.ins C dx fs')) σ (e.set i (some (.ins c ns' ds'))) S ∧ Fr B H (tot S) B (L2.upd H l (.ins C dx fs')) (tot S) := by
  obtain ⟨v, hv, p, C', dx', ys, e1, h2, hc2, hk2, h3, h4⟩ := r.rep i _ he
  rw [hσ] at hv; cases hv
  cases e1
  have hS : S i l := (h4 l).mpr rfl
  have hb := (r.own i l hS).1
  have hlen : i < e.length := (List.getElem?_eq_some_iff.mp he).1
  refine ⟨⟨by rw [List.length_set]; exact r.len, fun a o ha => ?_, fun j o ho => ?_, r.dis, fun j a ha => ⟨(r.own j a ha).1, ?_⟩⟩, Fr.upd hl ⟨i, hS⟩⟩
  · rw [upd_ne (fun z => by subst z; rw [hb] at ha; cases ha)]; exact r.ex a o ha
  · by_cases hj : j = i
    · subst hj
      rw [List.getElem?_set_self hlen] at ho
      cases ho
      exact ⟨_, hσ, l, C, dx, fs', rfl, upd_same, hc, hk, hr, h4⟩
    · rw [List.getElem?_set_ne (Ne.symm hj)] at ho
      obtain ⟨v, a1, a2⟩ := r.rep j o ho
      refine ⟨v, a1, ?_⟩
      cases o with
      | fr d => exact a2
      | lst es =>
        obtain ⟨q, zs, b1, b2, b3, b4⟩ := a2
        refine ⟨q, zs, b1, ?_, b3, b4⟩
        rw [upd_ne (fun z => by subst z; exact hj (r.dis j i q ((b4 q).mpr rfl) hS))]
        exact b2
      | dct es fs =>
        obtain ⟨q, zs, b1, b2, bk, b3, b4⟩ := a2
        refine ⟨q, zs, b1, ?_, bk, b3, b4⟩
        rw [upd_ne (fun z => by subst z; exact hj (r.dis j i q ((b4 q).mpr rfl) hS))]
        exact b2
      | ins c ns es =>
        obtain ⟨q, C, dx, zs, b1, b2, bc, bk, b3, b4⟩ := a2
        refine ⟨q, C, dx, zs, b1, ?_, bc, bk, b3, b4⟩
        rw [upd_ne (fun z => by subst z; exact hj (r.dis j i q ((b4 q).mpr rfl) hS))]
        exact b2
      | exn a d x => exact a2
  · by_cases hp : a = l
    · exact ⟨_, by rw [hp]; exact upd_same⟩
    · obtain ⟨_, o, h⟩ := r.own j a ha
      exact ⟨o, by rw [upd_ne hp]; exact h⟩
end
section
variable {X : Cx} {W : WX} {e : Expr} {pos pos' p : Pos} {f g : M O} {q : P} {ks : List Nat} {i : Nat} {x c fn : Str} {fs : List Str}
theorem d_fld (F : FldC X.K c fs) (hf : fn ∈ fs) (he : PE X e (tP X.K X.mg W q)) (hb : attributeBase e fn X.env (eval e X.env) = eval e X.env := by rfl) : PE X (.Attribute e fn pos) (tE X.K X.mg W (ap (gFld c fn) [q])) :=
  pe_imp (pe_fld he hb) fun σ H Q h => ap1_run (r := fun x H Q => ∃ a C dx fs v, x = .ref a ∧ H a = some (.ins C dx fs) ∧ Cls X.K C ∧ NoAttr X.K C fn ∧ fs.lookup fn = some v ∧ Q v H) (fun B H x a o hx hr hg Q q => by
    unfold gFld at hg
    split at hg
    · rename_i h; cases h
      split at hg
      · rename_i ec
        subst ec
        obtain ⟨d, e, rfl⟩ := Option.map_eq_some_iff.mp hg
        obtain ⟨p, C, dx, fs', rfl, h1, h2, h3, h4⟩ := hr
        obtain ⟨v, e1, e2⟩ := getF_rep h3 h4 e
        obtain ⟨k1, k2⟩ := F.ok C h2
        exact ⟨p, C, dx, fs', v, rfl, h1, k1, k2 _ hf, e1, q.fr hx e2⟩
      · cases hg
    · cases hg) Q h
theorem s_setF (F : FldC X.K c fs) (hf : fn ∈ fs) (hv : PE X (.Name x p) (tVar i)) (he : PE X e (tE X.K X.mg W g)) (hs : swapsWith e (some (.Attribute (.Name x p) fn pos')) pos.line X.env = pure false := by rfl) :
    PS X (.Assign [.Attribute (.Name x p) fn pos'] e pos) (tS X.K X.mg W ks (sSetF c fn i g)) := ps_imp (ps_fld hv he hs) fun D σ H h => by
  obtain ⟨B, e, S, r, h⟩ := h
  refine ⟨B, e, S, r, h.bind.imp (fun o e1 h9 v1 B1 H1 S1 T vl f1 => ?_) fun _ _ z => ExS.toE z⟩
  clear h
  obtain ⟨B2, vl2, f2⟩ := vl.freeze
  have f3 := fz_fr f1 f2
  cases q : e1[i]? with
  | none => rw [q] at h9; exact h9.elim
  | some u =>
    cases u with
    | none => rw [q] at h9; exact h9.elim
    | some o1 =>
      rw [q] at h9
      cases o1 with
      | fr d => exact h9.elim
      | lst _ => exact h9.elim
      | dct _ _ => exact h9.elim
      | exn _ _ _ => exact h9.elim
      | ins c' ns xs =>
        dsimp only at h9
        by_cases hc : c' = c ∧ ns.length < 1000
        · rw [if_pos hc] at h9
          obtain ⟨rfl, hl⟩ := hc
          obtain ⟨v, hv, l, C, dx, fs', ev, k2, kc, kk, k3, k4⟩ := vl2.rp.rep i _ q
          subst ev
          obtain ⟨c1, c2⟩ := F.ok C kc
          obtain ⟨r5, f5⟩ := vl2.rp.mutI q hv k2 kc (fs' := putF fn v1 fs') (ns' := putFn ns fn) (by rw [putF_ns, kk]) (putF_xs fn vl2.ro.1 kk k3)
          exact ⟨_, hv, l, C, dx, fs', rfl, k2, c1, c2 _ hf, by rw [← kk, List.length_map] at hl; exact hl, (show Nd X.K D ks B H S σ .next _ from h9) σ B2 _ S1 r5 (Kp.refl _ _) (f3.trans f5)⟩
        · rw [if_neg hc] at h9; exact h9.elim
/-! ### C(e, ..): an instance that stays as its __init__ left it -/
def mkIns (c : Str) (F : Fn) : Fn := fun os => match F (.ins c [] [] :: os) with
  | some (.ok (.fr .non) (.ins c' ns xs :: os')) => some (.ok (.fr (.ins c' ns xs)) os')
  | some (.ex x (_ :: os')) => some (.ex x os')
  | _ => none
theorem spD_make {K : PySem.W.Frag} {mg : Str → Option Value} {n : Nat} {c : Str} {F : Fn} {C : Addr} {vs : List V} {H : Hp} {Q : VK} {E : XK} (hC : ClsN K c C) (h : spD K mg n (mkIns c F) vs H Q E) :
    ∀ x dx, H x = none → H dx = none → dx ≠ x → spD K mg (n + 1) F (.ref x :: vs) (L2.upd (L2.upd H dx (.own x)) x (.ins C dx [])) (fun v H2 => v = .non ∧ Q (.ref x) H2) E := by
  intro x dx hx hdx hne
  obtain ⟨hl, B, os, S, r, h⟩ := h
  have g1 := Gr.own r.ex hdx (.own x)
  have hx1 : (L2.upd H dx (.own x)) x = none := by rw [upd_ne (Ne.symm hne)]; exact hx
  have g2 := Gr.own (r.grow g1).ex hx1 (.ins C dx [])
  have r2 := (r.grow g1).grow g2
  have gg := g1.trans g2
  have hnS : ∀ i a, S i a → a ≠ x := fun i a hi z => by
    subst z
    obtain ⟨_, u, hu⟩ := r.own i a hi
    rw [hx] at hu; cases hu
  have hBx : B x = none := by
    cases q : B x with
    | none => rfl
    | some u => have := r.ex x u q; rw [hx] at this; cases this
  have r3 : Rp K B (L2.upd (L2.upd H dx (.own x)) x (.ins C dx [])) ((V.ref x :: vs).map some) ((O.ins c [] [] :: os).map some) (fun i a => match i with
      | 0 => a = x
      | i + 1 => S i a) := by
    refine ⟨?_, r2.ex, fun i o ho => ?_, fun i j a h1 h2 => ?_, fun i a h1 => ?_⟩
    · have := r.len
      rw [List.length_map, List.length_map] at this
      rw [List.length_map, List.length_map, List.length_cons, List.length_cons, this]
    · cases i with
      | zero =>
        have ho' : some (some (O.ins c [] [])) = some (some o) := ho
        cases ho'
        exact ⟨.ref x, rfl, x, C, dx, [], rfl, upd_same, hC, rfl, .nil, fun a => Iff.rfl⟩
      | succ i => exact r2.rep i o ho
    · cases i with
      | zero =>
        cases j with
        | zero => rfl
        | succ j => exact absurd h1 (hnS j a h2)
      | succ i =>
        cases j with
        | zero => exact absurd h2 (hnS i a h1)
        | succ j => rw [r.dis i j a h1 h2]
    · cases i with
      | zero =>
        have h1' : a = x := h1
        subst h1'
        exact ⟨hBx, _, upd_same⟩
      | succ i => exact r2.own i a h1
  refine ⟨by rw [List.length_cons, hl], B, _, _, r3, ?_⟩
  have fr0 : Fr B H (tot S) B (L2.upd (L2.upd H dx (.own x)) x (.ins C dx [])) (tot fun i a => match i with
      | 0 => a = x
      | i + 1 => S i a) := by
    refine ⟨gg.b, fun a o q _ => gg.h a o q, fun a ⟨i, z⟩ => ?_, fun a o q => (gg.c a o q).elim .inl fun z => .inr (.inr z), fun a o q => ⟨o, gg.h a o q⟩⟩
    cases i with
    | zero => exact .inr (by have z' : a = x := z; rw [z']; exact hx)
    | succ i => exact .inl ⟨i, z⟩
  unfold mkIns at h
  cases q : F (O.ins c [] [] :: os) with
  | none => rw [q] at h; exact h.elim
  | some rf =>
    rw [q] at h
    cases rf with
    | ex y os1 =>
      cases os1 with
      | nil => exact h.elim
      | cons o1 os' =>
        intro C' d fs B' H' S' lo hC' r' hd hf hdn f'
        have h' : ∀ (C d : Addr) (fs : List (Str × V)) (B' H' : Hp) (S' : Nat → Addr → Prop), os'.length = vs.length → mg y.cls = some (.ref C) → Rp K B' H' (vs.map some) (os'.map some) S' → H' d = some (.xd fs) → XF K B' fs y.fs → H d = none → Fr B H (tot S) B' H' (tot S') → E (.ref C) (some d) H' := h
        refine h' C' d fs B' H' (fun i => S' (i + 1)) (by rw [List.length_cons, List.length_cons] at lo; omega) hC' ⟨by have := r'.len; simpa using this, r'.ex, fun i o ho => r'.rep (i + 1) o ho, fun i j a h1 h2 => by have := r'.dis (i + 1) (j + 1) a h1 h2; omega, fun i a h1 => r'.own (i + 1) a h1⟩ hd hf (gg.fr (tot S) |>.back hdn) ?_
        exact (fr0.trans f').imp (fun _ z => z) fun a ⟨i, z⟩ => ⟨i + 1, z⟩
    | ok o1 os1 =>
      match o1, os1, h with
      | .fr .non, .ins c' ns xs :: os', h =>
        intro v B' H' S' T lo vl f'
        have h' : ∀ v B' H' S' T, os'.length = vs.length → Vl K B' H' (vs.map some) (os'.map some) S' v (.fr (.ins c' ns xs)) T → Fr B H (tot S) B' H' (fun a => T a ∨ tot S' a) → Q v H' := h
        have hv := vl.ro.1
        cases hv
        refine ⟨rfl, ?_⟩
        obtain ⟨B2, w, hw, rw2, rp2, f2⟩ := vl.rp.freeze (i := 0) (o := .ins c' ns xs) rfl
        have hw' : some (some (V.ref x)) = some (some w) := hw
        cases hw'
        refine h' (.ref x) B2 H' (fun i => if i + 1 = 0 then noS else S' (i + 1)) noS (by rw [List.length_cons, List.length_cons] at lo; omega) (.fr ⟨by have := rp2.len; simpa using this, rp2.ex, fun i o ho => rp2.rep (i + 1) o ho, fun i j a h1 h2 => by have := rp2.dis (i + 1) (j + 1) a h1 h2; omega, fun i a h1 => rp2.own (i + 1) a h1⟩ rw2) ?_
        refine ((fr0.trans (f'.imp (fun _ z => z) fun a z => .inr z)).trans f2).imp (fun _ z => z) fun a z => ?_
        rcases z with z | ⟨i, z⟩
        · exact z.elim
        · exact ⟨i + 1, z⟩
/-- a class of the module, by its name: what its __init__ makes of a new instance -/
structure ClM (P : Program) (w : World) (K : PySem.W.Frag) (mg : Str → Option Value) (base : Heap) (k : Nat) (x : Str) (n : Nat) (F : Fn) : Prop where
  ex : ∃ (C f : Addr) (fd : FuncData) (ps : List Str), ps.length = n + 1 ∧ FnOk P w K mg base (L2.CX P w) k f fd ps (spD K mg ps.length F) ∧ Mk K C f ∧ mg x = some (.ref C) ∧ ClsN K x C ∧ Binds K fd ps []
theorem run_makeSD {CX : CXT} {k : Nat} {f C : Addr} {fd : FuncData} {ps : List Str} {sp : Sp} {E : XK} {pins : List (Addr × Obj)} {σ : St} {H : Hp} {s : Shared} {Q : VK} {us : List Value} {vs : List V} (M : Mk X.K C f) (F : FnOk X.prog X.w X.K X.mg X.base CX k f fd ps sp) (hr : Room (k + 1) X.A) (hb : Binds X.K fd ps [])
    (hx : PassesAt CX X σ E) (I : Inv X pins σ H s) (r : Vals vs us)
    (h : ∀ x dx, H x = none → H dx = none → dx ≠ x → sp (.ref x :: vs) (L2.upd (L2.upd H dx (.own x)) x (.ins C dx [])) (fun v H2 => v = .non ∧ Q (.ref x) H2) E) :
    wpAny (model X.prog X.w) X.A (call (.ref C) us) (EP X pins σ Q) X.xe s := by
  have hq := h (s.heap.objs.size + 1) s.heap.objs.size (I.hok.fresh (Nat.le_succ _)) (I.hok.fresh (Nat.le_refl _)) (Nat.ne_of_lt (Nat.lt_succ_self _))
  have I2 := Inv.made (C := C) I
  have r2 : Vals (V.ref (s.heap.objs.size + 1) :: vs) (Value.ref (s.heap.objs.size + 1) :: us) := .cons rfl r
  have hl : (Value.ref (s.heap.objs.size + 1) :: us).length = ps.length := by
    have e := r2.length
    rw [F.len _ _ _ _ hq] at e
    exact e.symm
  refine wpAny_call (make_map (f := f) I.kIn M.makes M.init (beq_iff_eq.mp M.fn) (codeAny_mono (F.run _ X.stack _ _ ⟨Value.ref (s.heap.objs.size + 1) :: us, []⟩ (Value.ref (s.heap.objs.size + 1) :: us) _ _ E (hr.make C us [])
    (I2.env0.make C us []) (by have := hb _ (Value.ref (s.heap.objs.size + 1) :: us) I2.kIn (by rw [List.append_nil]; exact hl); rw [List.append_nil] at this; exact this) r2 hq) fun r s' hq' => ?_))
  cases r with
  | error e => exact hx pins _ _ e s' I2 hq'
  | ok fl =>
    cases fl with
    | ret u =>
      obtain ⟨v, H', I3, rv, ev, q3⟩ := I2.after hq'
      subst ev
      exact ⟨rv, ⟨V.ref (s.heap.objs.size + 1), H', I3, rfl, q3⟩⟩
    | next => exact False.elim hq'
    | brk => exact False.elim hq'
    | cont => exact False.elim hq'
theorem d_make {es : List Expr} {k j n : Nat} {F : Fn} {ps : List P} (C : ClM X.prog X.w X.K X.mg X.base k x n F) (hr : Room j X.A) (tk : Takes X W) (ha : PA X (e :: es) (tPs X.K X.mg W ps)) (hk : k + 1 ≤ j := by decide) (hg : Gl X x := by rfl) (hn : n = ps.length := by rfl) (nd : (bs ps).Nodup := by decide)
    (hdb : (x == ("__debug__" : Str)) = false := by decide) (he : starEach (e :: es) X.env = (false, eval e X.env) :: starEach es X.env := by rfl) (hpl : (backTo pos (starEach es X.env)).any (·.1) = false := by rfl) :
    PE X (.Call (.Name x p) (e :: es) [] pos) (tE X.K X.mg W (eCall (mkIns x F) ps [])) := by
  obtain ⟨C0, f, fd, pn, h0, h1, h2, h3, h4, h5⟩ := C.ex
  refine ⟨fun pins s σ H Q I h => ?_⟩
  have hc := call_core (X := X) (W := W) (n := n) (dvs := []) (dv := []) (F := mkIns x F) rfl (by rw [hn]; rfl) nd (fun _ => .nil) h
  refine wpAny_Call_Name_kw (ld_glob I hg h3 ?_ hdb)
  refine PySem.W.callWith_K (h₀ := X.base) I.ok.mod.kin h2.kp (thn (ha.run pos pins s σ H _ I hc) fun us s1 ⟨vs, H1, I1, r, q⟩ => ⟨I1.kIn, ?_⟩) he hpl
  have q1 : spD X.K X.mg n (mkIns x F) (vs ++ []) H1 Q (WE W σ) := q
  rw [List.append_nil] at q1
  have q' := spD_make h4 q1
  refine run_makeSD (E := WE W σ) h2 h1 (hr.mono hk) h5 (passAt tk σ) I1 r ?_
  rw [h0]
  exact q'
/-! ### e.f, a property -/
def ePrp (c : Str) (F : Fn) (f : M O) : M O := f.bind fun o e => match o.d with
  | .ins c' ns xs => if c' = c then (match F [.fr (.ins c' ns xs)] with
    | some (.ok r _) => some (.ok r e)
    | _ => none) else none
  | _ => none
structure PrpC (P : Program) (w : World) (K : PySem.W.Frag) (mg : Str → Option Value) (base : Heap) (k : Nat) (c f : Str) (F : Fn) : Prop where
  ex : ∃ (C p g : Addr) (fd : FuncData) (ps : List Str), ps.length = 1 ∧ ClsN K c C ∧ Cls K C ∧ PropOf K C f p g ∧ FnOk P w K mg base (L2.CX P w) k g fd ps (spD K mg ps.length F) ∧ Binds K fd ps []
theorem d_prp {k j : Nat} {F : Fn} (C : PrpC X.prog X.w X.K X.mg X.base k c fn F) (hr : Room j X.A) (he : PE X e (tE X.K X.mg W f)) (hk : k + 1 ≤ j := by decide) (hab : attributeBase e fn X.env (eval e X.env) = eval e X.env := by rfl) : PE X (.Attribute e fn pos) (tE X.K X.mg W (ePrp c F f)) := by
  obtain ⟨C0, p0, g0, fd, ps, h0, h1, h2, h3, h4, h5⟩ := C.ex
  refine pe_imp (pe_prop (E := fun _ _ _ => False) he h2 h3 h4 (hr.mono hk) h5 .nil (fun pins σ H s e s' I c => ?_) hab) fun σ H Q h => ?_
  · obtain ⟨_, _, _, _, _, _, _, _, _, _, _, _, z⟩ := c
    exact z.elim
  · obtain ⟨B, e, S, r, h⟩ := h
    refine ⟨B, e, S, r, h.bind.imp (fun o e1 h9 v B1 H1 S1 T vl f1 => ?_) fun _ _ z => z⟩
    clear h
    obtain ⟨B2, vl2, f2⟩ := vl.freeze
    have f3 := fz_fr f1 f2
    have hrep := vl2.ro.1
    cases hd : o.d with
    | ins c' ns xs =>
      rw [hd] at h9 hrep
      dsimp only at h9
      by_cases hc : c' = c
      · rw [if_pos hc] at h9
        subst hc
        cases hrep with
        | ins k1 k2 k3 k4 =>
          rename_i a dx C' fs'
          obtain rfl := k2.one h1
          refine ⟨a, dx, fs', rfl, vl2.rp.ex _ _ k1, ?_⟩
          rw [h0]
          refine ⟨rfl, B2, [.fr (.ins c' ns xs)], fun _ => noS, ⟨rfl, vl2.rp.ex, fun i o ho => ?_, fun _ _ _ z => z.elim, fun _ _ z => z.elim⟩, ?_⟩
          · cases i with
            | zero =>
              have ho' : some (some (O.fr (.ins c' ns xs))) = some (some o) := ho
              cases ho'
              exact ⟨.ref a, rfl, .ins k1 k2 k3 k4, fun _ z => z⟩
            | succ i => simp at ho
          · cases q : F [.fr (.ins c' ns xs)] with
            | none => rw [q] at h9; exact h9.elim
            | some rf =>
              rw [q] at h9
              cases rf with
              | ex y os' => exact h9.elim
              | ok ro os' =>
                intro v' B' H' S' T' lo vl' f'
                have h' : ∀ v B' H' S' T, Vl X.K B' H' σ e1 S' v ro T → Fr B H (tot S) B' H' (fun a => T a ∨ tot S' a) → Q v H' := h9
                have fno : Fr B2 H1 noS B' H' (fun a => T' a ∨ tot S' a) := f'.imp (fun a ⟨_, z⟩ => z) fun _ z => z
                have keep : ∀ a o, H1 a = some o → H' a = some o := fun a o hh => fno.k a o hh fun z => z
                have gr : Gr B2 H1 B' H' := ⟨fno.b, keep, vl'.rp.ex, fun a o hh => (fno.c a o hh).elim .inl fun z => z.elim (fun z => z.elim) .inr⟩
                refine h' v' B' H' S1 T' ⟨vl2.rp.grow gr, vl'.ro, vl'.own, fun a ha ⟨i, hi⟩ => ?_⟩ ?_
                · obtain ⟨_, u, hu⟩ := vl2.rp.own i a hi
                  rcases fno.n a (.inl ha) with z | z
                  · exact z
                  · rw [hu] at z; cases z
                · refine f3.trans ⟨gr.b, fun a o hh _ => gr.h a o hh, fun a z => z.elim (fun z => (fno.n a (.inl z)).elim (fun y => y.elim) .inr) .inl, fun a o hh => (gr.c a o hh).elim .inl fun z => .inr (.inr z), fun a o hh => ⟨o, gr.h a o hh⟩⟩
      · rw [if_neg hc] at h9; exact h9.elim
    | _ => rw [hd] at h9; exact h9.elim
end
end Dn

namespace Dn
open PySem L2
open Evl (Ex)

/-! ## 47. max of a list of whole numbers; str.rfind -/
def maxL : List Int → Option Int
  | [] => none
  | [n] => some n
  | n :: ns => match maxL ns with
    | some m => some (if n ≤ m then m else n)
    | none => none
theorem maxL_spec : ∀ {ns : List Int} {m : Int}, maxL ns = some m → m ∈ ns ∧ ∀ y ∈ ns, y ≤ m
  | [n], m, h => by
    have : some n = some m := h
    cases this
    exact ⟨.head _, fun y hy => by cases hy with
      | head => exact Int.le_refl _
      | tail _ h => cases h⟩
  | n :: n' :: ns, m, h => by
    unfold maxL at h
    cases q : maxL (n' :: ns) with
    | none => rw [q] at h; cases h
    | some k =>
      rw [q] at h
      obtain ⟨a, b⟩ := maxL_spec q
      injection h with h
      by_cases hk : n ≤ k
      · rw [if_pos hk] at h
        subst h
        refine ⟨.tail _ a, fun y hy => ?_⟩
        cases hy with
        | head => exact hk
        | tail _ hy => exact b y hy
      · rw [if_neg hk] at h
        subst h
        refine ⟨.head _, fun y hy => ?_⟩
        cases hy with
        | head => exact Int.le_refl _
        | tail _ hy => have := b y hy; omega
theorem maxL_mem {ns : List Int} {m k : Int} (h : maxL ns = some m) (h1 : k ∈ ns) (h2 : ∀ y ∈ ns, y ≤ k) : k = m := by
  obtain ⟨a, b⟩ := maxL_spec h
  have := b k h1; have := h2 m a; omega
theorem maxL_some : ∀ {ns : List Int}, ns ≠ [] → ∃ m, maxL ns = some m
  | [], h => (h rfl).elim
  | [n], _ => ⟨n, rfl⟩
  | n :: n' :: ns, _ => by
    obtain ⟨m, e⟩ := maxL_some (ns := n' :: ns) (by simp)
    exact ⟨_, by unfold maxL; rw [e]⟩
def gMax1 : List D → Option O
  | [.lst ds] => match intsD ds with
    | some ns => (maxL ns).map iO
    | none => none
  | _ => none
theorem n_max1 {K : PySem.W.Frag} : SndN K (rMax K) gMax1 := fun B H vs ds o hx hr hg Q q => by
  unfold gMax1 at hg
  split at hg
  · split at hg
    · rename_i ns e
      obtain ⟨m, em, rfl⟩ := Option.map_eq_some_iff.mp hg
      obtain ⟨v, rfl, h⟩ := hr.one
      obtain ⟨p, xs, rfl, h1, h2⟩ := h
      rw [intsD_map e] at h2
      rw [repL_of_ints h2] at h1
      refine ⟨_, _, rfl, Evl.sq_of h1, ?_, fun k k1 k2 => ?_⟩
      · cases ns with
        | nil => cases em
        | cons _ _ => exact Nat.succ_pos _
      · rw [maxL_mem em k1 k2]; exact q.fr hx (.int _)
    · cases hg
  · cases hg
theorem gMax1_ints {ns : List Int} {m : Int} (h : maxL ns = some m) : gMax1 [.lst (ns.map .int)] = some (iO m) := by
  have e : intsD (ns.map D.int) = some ns := by
    clear h
    induction ns with
    | nil => rfl
    | cons n ns ih =>
      show (intsD (ns.map D.int)).map (n :: ·) = _
      rw [ih]; rfl
  show (match intsD (ns.map D.int) with
    | some ns => (maxL ns).map iO
    | none => none) = _
  rw [e]
  show (maxL ns).map iO = _
  rw [h]; rfl
def gRfind : List D → Option O
  | [.str a, .str b] => some (iO (PySem.Txt.rfind a b))
  | _ => none
theorem n_rfind {K : PySem.W.Frag} : SndM K (fun x xs H Q => ∃ a b, x = .str a ∧ xs = [.str b] ∧ Q (.int (PySem.Txt.rfind a b)) H) gRfind := fun B H x vs a ds o hx hr hl hg Q q => by
  unfold gRfind at hg
  split at hg
  · rename_i h; cases h; cases hg; cases hr
    obtain ⟨v, rfl, rv⟩ := hl.one
    cases rv
    exact ⟨_, _, rfl, rfl, q.fr hx (.int _)⟩
  · cases hg
theorem gRfind_z {a b : Str} : gRfind [.str a, .str b] = some (iO (PySem.Txt.rfind a b)) := rfl
/-! evaluation -/
theorem gFld_e {c f : Str} {ns : List Str} {xs : List D} {d : D} (h : getF ns xs f = some d) : gFld c f [.ins c ns xs] = some (.fr d) := by
  show (if c = c then (getF ns xs f).map O.fr else none) = _
  rw [if_pos rfl, h]; rfl
theorem sSetF_a (c f : Str) (i : Nat) (g : M O) (e : Sl) : sSetF c f i g e = @thn' _ _ (g e) ⟨fun o e1 => (match getO e1 i with
    | some (.ins c' ns xs) => if c' = c ∧ ns.length < 1000 then some (.ok .next (e1.set i (some (.ins c' (putFn ns f) (putFx ns xs f o.d))))) else none
    | _ => none)⟩ := by
  unfold sSetF
  rw [bind_a]
  refine thn_congr fun o e1 => ?_
  unfold getO
  cases h : e1[i]? with
  | none => rfl
  | some u => cases u with
    | none => rfl
    | some o1 => cases o1 <;> rfl
def prpV (F : Fn) (c : Str) (d : D) : Option O := match d with
  | .ins c' ns xs => if c' = c then (match F [.fr (.ins c' ns xs)] with
    | some (.ok r _) => some r
    | _ => none) else none
  | _ => none
def prpR (e : Sl) : Option O → Option (Ro O)
  | some r => some (.ok r e)
  | none => none
theorem prpR_s {e : Sl} {r : O} : prpR e (some r) = some (.ok r e) := nr rfl
theorem ePrp_a (c : Str) (F : Fn) (f : M O) (e : Sl) : ePrp c F f e = @thn' _ _ (f e) ⟨fun o e' => prpR e' (prpV F c o.d)⟩ := by
  unfold ePrp
  rw [bind_a]
  refine thn_congr fun o e1 => ?_
  unfold prpV
  cases o.d with
  | ins c' ns xs =>
    dsimp only
    by_cases h : c' = c
    · rw [if_pos h, if_pos h]
      cases F [.fr (.ins c' ns xs)] with
      | none => rfl
      | some r => cases r <;> rfl
    · rw [if_neg h, if_neg h]; rfl
  | _ => rfl
theorem prpV_i {F : Fn} {c : Str} {ns : List Str} {xs : List D} {r : O} {os : List O} (h : F [.fr (.ins c ns xs)] = some (.ok r os)) : prpV F c (.ins c ns xs) = some r := by
  show (if c = c then (match F [.fr (.ins c ns xs)] with
    | some (.ok r _) => some r
    | _ => none) else none) = _
  rw [if_pos rfl, h]
theorem mkIns_i {F : Fn} {c c' : Str} {ns : List Str} {xs : List D} {os os' : List O} (h : F (.ins c [] [] :: os) = some (.ok (.fr .non) (.ins c' ns xs :: os'))) : mkIns c F os = some (.ok (.fr (.ins c' ns xs)) os') := by
  unfold mkIns; rw [h]
end Dn

namespace Dn
open PySem L2
open Evl (Ex)

/-! ## 48. A comprehension over two sources -/
def lc2L (own : List Nat) (tg : Tg) (t : M Bool) (vs1 : List Nat) (src1 : M (List D)) (tg1 : Tg) (t1 : M Bool) (f : M O) : List D → List D → Sl → Option (List D × Sl)
  | [], acc, e => some (acc, e)
  | d :: ds, acc, e => match tg.go d e with
    | none => none
    | some e1 => match t e1 with
      | some (.ok b e2) => if b then (match src1 e2 with
          | some (.ok ds1 e3) => (match lcL vs1 tg1 t1 f ds1 acc (wipeE e3 vs1) with
            | some (acc', e4) => lc2L own tg t vs1 src1 tg1 t1 f ds acc' (wipeE e4 own)
            | none => none)
          | _ => none) else lc2L own tg t vs1 src1 tg1 t1 f ds acc (wipeE e2 own)
      | _ => none
def eComp2 (own : List Nat) (src : M (List D)) (tg : Tg) (t : M Bool) (vs1 : List Nat) (src1 : M (List D)) (tg1 : Tg) (t1 : M Bool) (f : M O) : M O := src.bind fun ds e => match lc2L own tg t vs1 src1 tg1 t1 f ds [] (wipeE e own) with
  | some (acc, e') => some (.ok (.lst acc) (restE e e' own))
  | none => none
section
variable {J : It} {n : Nat} {G : Hp → Prop} {Y : Nat → Hp → V → Hp → Prop}
theorem wk_gen (w : Walk J n G Y) {body : V → Hp → (Hp → Prop) → Prop} {H0 : Hp} {Qd : Hp → Prop} (Pv : Nat → Hp → Prop) (h0 : Pv 0 H0) (hG : ∀ i H, i ≤ n → Pv i H → G H)
    (hs : ∀ i x H H', i < n → Pv i H → Y i H x H' → body x H' (Pv (i + 1))) (hd : ∀ H, Pv n H → Qd H) :
    ∃ W : Nat → Nat → Hp → Prop, (∃ m, W 0 m H0) ∧ ∀ i m H, W i m H →
      (J.stop i H ∧ Qd H) ∨ (J.go i H ∧ ∃ Nx : Hp → Prop, (∀ H', Nx H' → ∃ m', m' < m ∧ W (i + 1) m' H') ∧ ∀ x H', J.yld i H x H' → body x H' Nx) := by
  refine ⟨fun i m H => m = n - i ∧ i ≤ n ∧ Pv i H, ⟨n, by simp, Nat.zero_le _, h0⟩, ?_⟩
  rintro i m H ⟨rfl, hi, p⟩
  have q := hG i H hi p
  by_cases hlt : i < n
  · refine .inr ⟨w.goes i H hlt q, Pv (i + 1), fun H' p' => ⟨n - (i + 1), by omega, rfl, hlt, p'⟩, fun x H' y => hs i x H H' hlt p (w.yields i H x H' hlt q y)⟩
  · have e : i = n := by omega
    subst e
    exact .inl ⟨w.stops H q, hd H p⟩
end
section
variable {K : PySem.W.Frag} {mg : Str → Option Value} {W : WX} {B B' B2 H H' H2 : Hp} {v : V} {o : O} {σ σ' : St} {e e' : Sl} {S S' : Nat → Addr → Prop} {T T' : Addr → Prop}
theorem el_run {own : List Nat} {tg : Tg} {t : M Bool} {f : M O} {D : Addr} {acc ds : List Dn.D} {x : V} {d : Dn.D} {R : List Dn.D × Sl} {P : Hp → Prop} (hk : ∀ i ∈ tg.ix, i ∈ own) (vl : Vl K B' H' (L2.wipe σ own) e' S' (.ref D) (.lst acc) (fun a => a = D)) (gr : Gr B' H' B2 H2) (rv : Rep K B2 x d)
    (h' : lcL own tg t f (d :: ds) acc e' = some R)
    (hP : ∀ B'' H'' e'' S'' acc'', Vl K B'' H'' (L2.wipe σ own) e'' S'' (.ref D) (.lst acc'') (fun a => a = D) → Fr B' H' (fun a => a = D ∨ tot S' a) B'' H'' (fun a => a = D ∨ tot S'' a) → Ex B' B'' → lcL own tg t f ds acc'' e'' = some R → P H'') :
    tTg K tg x (L2.wipe σ own) H2 fun σ2 H2' => L2.wipe σ2 own = L2.wipe σ own ∧ tT K mg (fun _ _ _ _ => False) t σ2 H2' fun b H3 => if b = true then tE K mg (fun _ _ _ _ => False) f σ2 H3 fun y H4 => ∃ acc, H4 D = some (.lst acc) ∧ acc.length < sizeLine ∧ P (L2.upd H4 D (.lst (acc ++ [y]))) else P H3 := by
  unfold lcL at h'
  have r2 := vl.rp.grow gr
  have ro2 := vl.ro.grow gr
  have ow2 := vl.own.grow gr
  cases qt : tg.go d e' with
  | none => rw [qt] at h'; cases h'
  | some e2 =>
    rw [qt] at h'
    dsimp only at h'
    refine tg_run (ks := []) r2 rv qt (fun _ _ z => nomatch z) fun σ3 S3 r3 _ t3 n3 => ?_
    have wσ : L2.wipe σ3 own = L2.wipe σ own := by
      rw [← wipe_wipe σ own]
      exact wipe_eq (r3.len.trans ((go_len qt).trans r2.len.symm)) fun j hj => n3 j fun z => hj (hk j z)
    refine ⟨wσ, B2, e2, S3, r3, ?_⟩
    have dj3 : ∀ a, a = D → ¬ tot S3 a := fun a ha z => vl.dj a ha (t3 a z)
    have f3 : Fr B' H' (fun a => a = D ∨ tot S' a) B2 H2 (fun a => a = D ∨ tot S3 a) := (gr.fr _).imp (fun _ z => z) fun a z => z.elim .inl fun z => .inr (t3 a z)
    cases qc : t e2 with
    | none => rw [qc] at h'; cases h'
    | some rc =>
      rw [qc] at h'
      cases rc with
      | ex _ _ => cases h'
      | ok b e4 =>
        intro B4 H4 S4 r4 f4
        obtain ⟨ro4, ow4, dj4⟩ := ro2.frame ow2 dj3 f4
        have f34 := f3.trans (f4.both fun a => a = D)
        cases b with
        | false =>
          exact iteF (hP B4 H4 _ S4 acc ⟨by rw [← wσ]; exact r4.wipe own, ro4, ow4, dj4⟩ f34 (gr.b.trans f4.b) h')
        | true =>
          refine iteT ⟨B4, e4, S4, r4, ?_⟩
          cases qf : f e4 with
          | none => simp only [qf, if_true] at h'; cases h'
          | some rf =>
            simp only [qf, if_true] at h'
            cases rf with
            | ex _ _ => cases h'
            | ok o e5 =>
              intro y B5 H5 S5 T5 vl5 f5
              obtain ⟨B6, vl6, f6⟩ := vl5.freeze
              have f56 : Fr B4 H4 (tot S4) B6 H5 (tot S5) := f5.trans ⟨f6.b, fun a o q _ => q, fun a z => .inl (.inr z), fun a u q => (f6.c a u q).elim .inl fun z => .inr (z.elim (fun z => .inl (.inl z)) .inr), fun a o q => ⟨o, q⟩⟩
              obtain ⟨ro6, ow6, dj6⟩ := ro4.frame ow4 dj4 f56
              obtain ⟨p, xs, ep, hp, rl, hs⟩ := ro6
              cases ep
              dsimp only at h'
              split at h'
              · rename_i hlen
                refine ⟨xs, hp, by rw [rl.length]; exact hlen, hP B6 _ _ S5 _ ⟨?_, ⟨D, _, rfl, upd_same, rl.append (.one vl6.ro.1), fun a => Iff.rfl⟩, fun a ha => ⟨(ow6 a ha).1, by subst ha; exact ⟨_, upd_same⟩⟩, dj6⟩ ?_ (gr.b.trans (f4.b.trans f56.b)) h'⟩
                · rw [← wσ]
                  exact (vl6.rp.wipe own).upd (ow6 D rfl).1 fun i z => dj6 D rfl ⟨i, z⟩
                · exact (f34.trans (f56.both fun a => a = D)).trans (Fr.upd hp (.inl rfl))
              · cases h'
theorem wipe_sub {σ : St} {vs own : List Nat} (h : ∀ i ∈ vs, i ∈ own) : L2.wipe (L2.wipe σ vs) own = L2.wipe σ own :=
  wipe_eq (wipe_length σ vs) fun j hj => by rw [wipe_at, if_neg fun z => hj (h j z)]
theorem comp2_run {own vs1 : List Nat} {tg tg1 : Tg} {t t1 : M Bool} {f : M O} {src src1 : M (List D)} {Q : VK} (hk : ∀ i ∈ tg.ix, i ∈ own) (hk1 : ∀ i ∈ tg1.ix, i ∈ vs1) (hv : ∀ i ∈ vs1, i ∈ own) (h : tE K mg W (eComp2 own src tg t vs1 src1 tg1 t1 f) σ H Q) :
    tLc2 (tSrc K mg W src) (tTg K tg) (tT K mg (fun _ _ _ _ => False) t) (tSrc K mg (fun _ _ _ _ => False) src1) (tTg K tg1) (tT K mg (fun _ _ _ _ => False) t1) (tE K mg (fun _ _ _ _ => False) f) own vs1 σ H Q := by
  obtain ⟨B, e, S, r, h⟩ := h
  refine ⟨B, e, S, r, h.bind.imp (fun ds e1 h J B1 H1 S1 r1 f1 wd D hD => ?_) fun _ _ z => z⟩
  obtain ⟨G, Y, wk, hG, hY⟩ := wd
  cases q : lc2L own tg t vs1 src1 tg1 t1 f ds [] (wipeE e1 own) with
  | none => rw [q] at h; exact h.elim
  | some res =>
    obtain ⟨accF, eF⟩ := res
    rw [q] at h
    have h0 : ∀ v B' H' S' T, Vl K B' H' σ (restE e1 eF own) S' v (.lst accF) T → Fr B H (tot S) B' H' (fun a => T a ∨ tot S' a) → Q v H' := h
    have hbD : B1 D = none := by
      cases qd : B1 D with
      | none => rfl
      | some u => have := r1.ex D u qd; rw [hD] at this; cases this
    have hsD : ∀ i, ¬ S1 i D := fun i z => by
      obtain ⟨_, o, ho⟩ := r1.own i D z
      rw [hD] at ho; cases ho
    have own1 : Own B1 (L2.upd H1 D (.lst [])) (fun a => a = D) := fun a ha => by subst ha; exact ⟨hbD, _, upd_same⟩
    refine wk_gen wk (body := fun x H' Nx => tTg K tg x (L2.wipe σ own) H' fun σ2 H2 => L2.wipe σ2 own = L2.wipe σ own ∧ tT K mg (fun _ _ _ _ => False) t σ2 H2 fun b H3 =>
      if b = true then tSrc K mg (fun _ _ _ _ => False) src1 σ2 H3 fun J1 H4 => ∃ W1 : Nat → Nat → Hp → Prop, (∃ m, W1 0 m H4) ∧ ∀ j k H, W1 j k H →
        (J1.stop j H ∧ Nx H) ∨ (J1.go j H ∧ ∃ Nx1 : Hp → Prop, (∀ H', Nx1 H' → ∃ k', k' < k ∧ W1 (j + 1) k' H') ∧ ∀ x H', J1.yld j H x H' → tTg K tg1 x (L2.wipe σ2 vs1) H' fun σ3 H5 => L2.wipe σ3 vs1 = L2.wipe σ2 vs1 ∧ tT K mg (fun _ _ _ _ => False) t1 σ3 H5 fun b H6 =>
          if b = true then tE K mg (fun _ _ _ _ => False) f σ3 H6 fun y H7 => ∃ acc, H7 D = some (.lst acc) ∧ acc.length < sizeLine ∧ Nx1 (L2.upd H7 D (.lst (acc ++ [y]))) else Nx1 H6)
      else Nx H3)
      (fun i H' => ∃ B' e' S' acc, Vl K B' H' (L2.wipe σ own) e' S' (.ref D) (.lst acc) (fun a => a = D) ∧ Fr B H (tot S) B' H' (fun a => a = D ∨ tot S' a) ∧ Ex B1 B' ∧ lc2L own tg t vs1 src1 tg1 t1 f (ds.drop i) acc e' = some (accF, eF))
      ⟨B1, wipeE e1 own, S1, [], ⟨(r1.upd hbD hsD).wipe own, ⟨D, [], rfl, upd_same, .nil, fun a => Iff.rfl⟩, own1, fun a ha ⟨i, z⟩ => hsD i (ha ▸ z)⟩, ?_, Ex.refl _, by rw [List.drop_zero]; exact q⟩
      (fun i H' hi ⟨B', e', S', acc, vl, f', x', h'⟩ => hG _ (x'.trans vl.rp.ex)) (fun i x H' H2 hi ⟨B', e', S', acc, vl, f', x', h'⟩ hy => ?_) fun H' ⟨B', e', S', acc, vl, f', x', h'⟩ => ?_
    · refine f1.trans ⟨Ex.refl _, fun a o ha _ => ?_, fun a z => z.elim (fun z => .inr (by rw [z]; exact hD)) .inl, fun _ _ z => .inl z, fun a o ha => ⟨o, ?_⟩⟩
      · rw [upd_ne (ne_of_none ha hD)]; exact ha
      · rw [upd_ne (ne_of_none ha hD)]; exact ha
    · obtain ⟨B2, d, gr, hd, rv⟩ := hY i H' x H2 B' hi x' vl.rp.ex hy
      have ed : ds.drop i = d :: ds.drop (i + 1) := by
        rw [List.drop_eq_getElem_cons hi]
        rw [List.getElem?_eq_getElem hi] at hd
        cases hd
        rfl
      rw [ed] at h'
      unfold lc2L at h'
      have r2 := vl.rp.grow gr
      have ro2 := vl.ro.grow gr
      have ow2 := vl.own.grow gr
      cases qt : tg.go d e' with
      | none => rw [qt] at h'; cases h'
      | some e2 =>
        rw [qt] at h'
        dsimp only at h'
        refine tg_run (ks := []) r2 rv qt (fun _ _ z => nomatch z) fun σ3 S3 r3 _ t3 n3 => ?_
        have wσ : L2.wipe σ3 own = L2.wipe σ own := by
          rw [← wipe_wipe σ own]
          exact wipe_eq (r3.len.trans ((go_len qt).trans r2.len.symm)) fun j hj => n3 j fun z => hj (hk j z)
        refine ⟨wσ, B2, e2, S3, r3, ?_⟩
        have dj3 : ∀ a, a = D → ¬ tot S3 a := fun a ha z => vl.dj a ha (t3 a z)
        have f3 : Fr B H (tot S) B2 H2 (fun a => a = D ∨ tot S3 a) := (f'.trans (gr.fr _)).imp (fun _ z => z) fun a z => z.elim .inl fun z => .inr (t3 a z)
        cases qc : t e2 with
        | none => rw [qc] at h'; cases h'
        | some rc =>
          rw [qc] at h'
          cases rc with
          | ex _ _ => cases h'
          | ok b e4 =>
            intro B4 H4 S4 r4 f4
            obtain ⟨ro4, ow4, dj4⟩ := ro2.frame ow2 dj3 f4
            have f34 := f3.trans (f4.both fun a => a = D)
            cases b with
            | false =>
              exact iteF ⟨B4, _, S4, acc, ⟨by rw [← wσ]; exact r4.wipe own, ro4, ow4, dj4⟩, f34, (x'.trans gr.b).trans f4.b, h'⟩
            | true =>
              refine iteT ⟨B4, e4, S4, r4, ?_⟩
              cases qs : src1 e4 with
              | none => simp only [qs, if_true] at h'; cases h'
              | some rs =>
                simp only [qs, if_true] at h'
                cases rs with
                | ex _ _ => cases h'
                | ok ds1 e5 =>
                  dsimp only at h'
                  intro J1 B5 H5 S5 r5 f5 wd1
                  obtain ⟨G1, Y1, wk1, hG1, hY1⟩ := wd1
                  obtain ⟨ro5, ow5, dj5⟩ := ro4.frame ow4 dj4 f5
                  have f45 := f34.trans (f5.both fun a => a = D)
                  cases ql : lcL vs1 tg1 t1 f ds1 acc (wipeE e5 vs1) with
                  | none => rw [ql] at h'; cases h'
                  | some r6 =>
                    obtain ⟨acc4, e6⟩ := r6
                    rw [ql] at h'
                    dsimp only at h'
                    refine wk_gen wk1 (body := fun x H' Nx1 => tTg K tg1 x (L2.wipe σ3 vs1) H' fun σ4 H5 => L2.wipe σ4 vs1 = L2.wipe σ3 vs1 ∧ tT K mg (fun _ _ _ _ => False) t1 σ4 H5 fun b H6 =>
                        if b = true then tE K mg (fun _ _ _ _ => False) f σ4 H6 fun y H7 => ∃ acc, H7 D = some (.lst acc) ∧ acc.length < sizeLine ∧ Nx1 (L2.upd H7 D (.lst (acc ++ [y]))) else Nx1 H6)
                      (fun j H' => ∃ B' e' S' acc, Vl K B' H' (L2.wipe σ3 vs1) e' S' (.ref D) (.lst acc) (fun a => a = D) ∧ Fr B H (tot S) B' H' (fun a => a = D ∨ tot S' a) ∧ Ex B5 B' ∧ lcL vs1 tg1 t1 f (ds1.drop j) acc e' = some (acc4, e6))
                      ⟨B5, wipeE e5 vs1, S5, acc, ⟨r5.wipe vs1, ro5, ow5, dj5⟩, f45, Ex.refl _, by rw [List.drop_zero]; exact ql⟩
                      (fun j H' hj ⟨B', e', S', acc, vl, f', x', h'⟩ => hG1 _ (x'.trans vl.rp.ex)) (fun j x H' H2 hj ⟨B', e', S', acc, vl, f7, x7, h7⟩ hy => ?_) fun H' ⟨B', e', S', acc', vl, f7, x7, h7⟩ => ?_
                    · obtain ⟨B7, d1, gr1, hd1, rv1⟩ := hY1 j H' x H2 B' hj x7 vl.rp.ex hy
                      have ed1 : ds1.drop j = d1 :: ds1.drop (j + 1) := by
                        rw [List.drop_eq_getElem_cons hj]
                        rw [List.getElem?_eq_getElem hj] at hd1
                        cases hd1
                        rfl
                      rw [ed1] at h7
                      exact el_run hk1 vl gr1 rv1 h7 fun B'' H'' e'' S'' acc'' vl8 f8 x8 h8 => ⟨B'', e'', S'', acc'', vl8, f7.trans f8, x7.trans x8, h8⟩
                    · rw [List.drop_length] at h7
                      have h8 : some (acc', e') = some (acc4, e6) := h7
                      obtain ⟨a1, a2⟩ : acc' = acc4 ∧ e' = e6 := by injection h8 with h8; injection h8 with a b; exact ⟨a, b⟩
                      rw [← a1, ← a2] at h'
                      refine ⟨B', wipeE e' own, S', acc', ⟨?_, vl.ro, vl.own, vl.dj⟩, f7, ((x'.trans gr.b).trans f4.b).trans (f5.b.trans x7), h'⟩
                      have := vl.rp.wipe own
                      rw [wipe_sub hv, wσ] at this
                      exact this
    · rw [List.drop_length] at h'
      have h2 : some (acc, e') = some (accF, eF) := h'
      cases h2
      refine h0 (.ref D) B' H' (fun j => if j ∈ own then noS else S' j) (fun a => a = D) ⟨⟨by rw [restE_len, ← vl.rp.len, wipe_length], vl.rp.ex, fun j o ho => ?_, fun i j a h1 h2 => ?_, fun j a h1 => ?_⟩, vl.ro, vl.own, fun a ha ⟨j, z⟩ => ?_⟩ (f'.imp (fun _ z => z) fun a z => z.elim .inl fun ⟨j, z⟩ => ?_)
      · have hin : ∀ o, eF[j]? = some (some o) → j ∉ own := fun o ho hj => by
          obtain ⟨v, hv, _⟩ := vl.rp.rep j o ho
          rw [wipe_at, if_pos hj] at hv
          cases qq : σ[j]? with
          | none => rw [qq] at hv; cases hv
          | some u => rw [qq] at hv; cases hv
        rcases restE_at ho with ⟨a, b, d, rfl⟩ | a
        · obtain ⟨v, hv, ro⟩ := r1.rep j _ b
          exact ⟨v, hv, by rw [if_pos a]; exact ⟨ro.1.mono x', fun _ z => z⟩⟩
        · obtain ⟨v, hv, ro⟩ := vl.rp.rep j o a
          have hj := hin o a
          rw [wipe_at, if_neg hj] at hv
          exact ⟨v, hv, by rw [if_neg hj]; exact ro⟩
      · skip
        by_cases hi : i ∈ own
        · rw [if_pos hi] at h1; exact h1.elim
        · by_cases hj : j ∈ own
          · rw [if_pos hj] at h2; exact h2.elim
          · rw [if_neg hi] at h1; rw [if_neg hj] at h2; exact vl.rp.dis i j a h1 h2
      · skip
        by_cases hj : j ∈ own
        · rw [if_pos hj] at h1; exact h1.elim
        · rw [if_neg hj] at h1; exact vl.rp.own j a h1
      · dsimp only at z
        by_cases hj : j ∈ own
        · rw [if_pos hj] at z; exact z.elim
        · rw [if_neg hj] at z; exact vl.dj a ha ⟨j, z⟩
      · dsimp only at z
        by_cases hj : j ∈ own
        · rw [if_pos hj] at z; exact z.elim
        · rw [if_neg hj] at z; exact .inr ⟨j, z⟩
end
section
variable {X : Cx} {W : WX}
theorem d_comp2 {elt tgt iter tgt1 iter1 : Expr} {ifs ifs1 : List Expr} {scope : Scope} {own : List (Str × Nat)} {vs1 : List Nat} {pos : Pos} {src src1 : M (List D)} {tg tg1 : Tg} {t t1 : M Bool} {f : M O} (hc : X.calm = true) (hN : X.N.Nodup) (hi : PI X tgt iter (tSrc X.K X.mg W src)) (ok : BlkOk X.N X.env.scope scope own)
    (hg : ∀ (s : Shared) (H : Hp) (C : Addr) (cl : List (Str × Addr)) (fp : List Addr), PG (X.blk s H scope (compEnvC scope cl C X.env) fp) tgt (tTg X.K tg)) (ht : ∀ (s : Shared) (H : Hp) (C : Addr) (cl : List (Str × Addr)) (fp : List Addr), PTs (X.blk s H scope (compEnvC scope cl C X.env) fp) ifs (tT X.K X.mg WF t))
    (hi1 : ∀ (s : Shared) (H : Hp) (C : Addr) (cl : List (Str × Addr)) (fp : List Addr), PI (X.blk s H scope (compEnvC scope cl C X.env) fp) tgt1 iter1 (tSrc X.K X.mg WF src1))
    (hg1 : ∀ (s : Shared) (H : Hp) (C : Addr) (cl : List (Str × Addr)) (fp : List Addr), PG (X.blk s H scope (compEnvC scope cl C X.env) fp) tgt1 (tTg X.K tg1)) (ht1 : ∀ (s : Shared) (H : Hp) (C : Addr) (cl : List (Str × Addr)) (fp : List Addr), PTs (X.blk s H scope (compEnvC scope cl C X.env) fp) ifs1 (tT X.K X.mg WF t1))
    (he : ∀ (s : Shared) (H : Hp) (C : Addr) (cl : List (Str × Addr)) (fp : List Addr), PE (X.blk s H scope (compEnvC scope cl C X.env) fp) elt (tE X.K X.mg WF f)) (hk : ∀ i ∈ tg.ix, i ∈ own.map (·.2)) (hk1 : ∀ i ∈ tg1.ix, i ∈ vs1) (hv : ∀ i ∈ vs1, i ∈ own.map (·.2)) (hs : ∀ x, foldedSetIterable iter X.env x = pure x := by intro _; rfl) (hs1 : ∀ env x, foldedSetIterable iter1 env x = pure x := by intro _ _; rfl) :
    PE X (.ListComp elt [⟨tgt, iter, ifs, 0⟩, ⟨tgt1, iter1, ifs1, 0⟩] scope pos) (tE X.K X.mg W (eComp2 (own.map (·.2)) src tg t vs1 src1 tg1 t1 f)) := pe_imp (pe_lc2 hc hN hi ok hv hg ht hi1 hg1 ht1 he hs hs1) fun _ _ _ h => comp2_run hk hk1 hv h
end
theorem eComp2_e (own : List Nat) (src : M (List D)) (tg : Tg) (t : M Bool) (vs1 : List Nat) (src1 : M (List D)) (tg1 : Tg) (t1 : M Bool) (f : M O) (e : Sl) : eComp2 own src tg t vs1 src1 tg1 t1 f e = @thn' _ _ (src e) ⟨fun ds e' => lcR own e' (lc2L own tg t vs1 src1 tg1 t1 f ds [] (wipeE e' own))⟩ := nr rfl
/-! ## 49. list.index of a text -/
def idxS : List Str → Str → Option Nat
  | [], _ => none
  | y :: ys, k => if y = k then some 0 else (idxS ys k).map (· + 1)
theorem idxS_spec : ∀ {ys : List Str} {k : Str} {j : Nat}, idxS ys k = some j → ys[j]? = some k ∧ ∀ (m : Nat) (z : Str), m < j → ys[m]? = some z → z ≠ k
  | [], _, _, h => by cases h
  | y :: ys, k, j, h => by
    unfold idxS at h
    by_cases e : y = k
    · rw [if_pos e] at h
      cases h
      exact ⟨by rw [e]; rfl, fun m z hm _ => by omega⟩
    · rw [if_neg e] at h
      obtain ⟨i, h1, rfl⟩ := Option.map_eq_some_iff.mp h
      obtain ⟨a, b⟩ := idxS_spec h1
      refine ⟨a, fun m z hm hz => ?_⟩
      cases m with
      | zero => cases hz; exact e
      | succ m => exact b m z (by omega) hz
def gLIndex : List D → Option O
  | [.lst ds, .str k] => match strsD ds with
    | some ys => (idxS ys k).map fun j => iO (j : Nat)
    | none => none
  | _ => none
theorem n_lindex {K : PySem.W.Frag} : SndM K (rIndex K) gLIndex := fun B H x vs a ds o hx ha hr hg Q q => by
  unfold gLIndex at hg
  split at hg
  · rename_i _ ls k e
    injection e with e1 e2
    subst e1 e2
    split at hg
    · rename_i ys h1
      obtain ⟨j, hj, rfl⟩ := Option.map_eq_some_iff.mp hg
      have e3 := strsD_of h1
      subst e3
      obtain ⟨p, xs, rfl, h2, h3⟩ := ha
      obtain ⟨y, rfl, h4⟩ := hr.one
      cases h4
      have e4 := repL_of_strs h3
      subst e4
      obtain ⟨a1, a2⟩ := idxS_spec hj
      refine ⟨p, _, _, j, .str k, rfl, rfl, Evl.sq_of h2, rfl, ?_, ?_, ?_, fun m z hm hz => ?_, q.fr hx (.int _)⟩
      · rw [List.all_map]; exact List.all_eq_true.mpr fun _ _ => rfl
      · rw [List.getElem?_map, a1]; rfl
      · simp [eqV]
      · rw [List.getElem?_map] at hz
        obtain ⟨z', hz', rfl⟩ := Option.map_eq_some_iff.mp hz
        have := a2 m z' hm hz'
        simp [eqV, this]
    · cases hg
  · cases hg
theorem gLIndex_s {ys : List Str} {k : Str} {j : Nat} (h : idxS ys k = some j) : gLIndex [.lst (ys.map D.str), .str k] = some (iO (j : Nat)) := by
  have e : strsD (ys.map D.str) = some ys := by
    clear h
    induction ys with
    | nil => rfl
    | cons y ys ih => show (strsD (ys.map D.str)).map (y :: ·) = _; rw [ih]; rfl
  show (match strsD (ys.map D.str) with
    | some ys => (idxS ys k).map fun j => iO (j : Nat)
    | none => none) = _
  rw [e]
  show (idxS ys k).map _ = _
  rw [h]; rfl
end Dn

namespace Dn
open PySem L2
open Evl (Ex)

/-! ## 50. str of a text or a whole number; join of a tuple -/
def gStr2 : List D → Option O
  | [.int i] => if i.natAbs.log2 < 1920 then some (sO (toString i)) else none
  | [.str z] => some (sO z)
  | _ => none
theorem call_str2 {X : Cx} : CallR X (.type "str") (fun xs H Q => (∃ i : Int, xs = [.int i] ∧ i.natAbs.log2 < 1920 ∧ Q (.str (toString i)) H) ∨ ∃ a, xs = [.str a] ∧ Q (.str a) H) := by
  intro pins s σ H xs us Q I r h
  rcases h with h | h
  · exact call_str_int pins s σ H xs us Q I r h
  · exact SkE.call_str_str pins s σ H xs us Q I r h
theorem n_str2 {K : PySem.W.Frag} : SndN K (fun xs H Q => (∃ i : Int, xs = [.int i] ∧ i.natAbs.log2 < 1920 ∧ Q (.str (toString i)) H) ∨ ∃ a, xs = [.str a] ∧ Q (.str a) H) gStr2 := by
  intro B H vs ds o hx hr hg Q q
  unfold gStr2 at hg
  split at hg
  · split at hg
    · obtain ⟨v, rfl, h1⟩ := hr.one
      cases h1
      injection hg with hg
      subst hg
      exact .inl ⟨_, rfl, by assumption, q.fr hx (.str _)⟩
    · cases hg
  · obtain ⟨v, rfl, h1⟩ := hr.one
    cases h1
    injection hg with hg
    subst hg
    exact .inr ⟨_, rfl, q.fr hx (.str _)⟩
  · cases hg
theorem gStr2_z {z : Str} : gStr2 [.str z] = some (sO z) := nr rfl
theorem gStr2_i {i : Int} (h : i.natAbs.log2 < 1920) : gStr2 [.int i] = some (sO (toString i)) := if_pos h
def gJoinT : List D → Option O
  | [.str a, .tup ds] => (strsD ds).bind fun ys => if (ys.map (·.length)).sum + ys.length * a.length ≤ 16777216 then some (sO (Txt.join a ys)) else none
  | _ => none
theorem n_joinT {K : PySem.W.Frag} : SndM K (fun x xs H Q => ∃ a p, ∃ ys : List Str, x = .str a ∧ xs = [.ref p] ∧ (SqL K H p (ys.map V.str) ∨ SqT K H p (ys.map V.str)) ∧ (ys.map (·.length)).sum + ys.length * a.length ≤ 16777216 ∧ Q (.str (Txt.join a ys)) H) gJoinT := fun B H x vs a ds o hx hr hl hg Q q => by
  unfold gJoinT at hg
  split at hg
  · rename_i h; cases h
    obtain ⟨ys, e1, hg⟩ := Option.bind_eq_some_iff.mp hg
    split at hg
    · rename_i hz
      cases hg; cases hr
      obtain ⟨v, rfl, rv⟩ := hl.one
      have rv' : Rep K B v (.tup _) := rv
      cases rv' with
      | tup h1 h2 =>
        rw [strsD_map e1] at h2
        rw [repL_of_strs h2] at h1
        exact ⟨_, _, ys, rfl, rfl, .inr (Evl.ex_t hx h1), hz, q.fr hx (.str _)⟩
    · cases hg
  · cases hg
theorem gJoinT_eq {a : Str} {ds : List D} : gJoinT [.str a, .tup ds] = gJoin [.str a, .lst ds] := nr rfl
end Dn


namespace Lw
open PySem L2 Dn
/-! ### the text -/
def topS (i : Nat) : Stmt := PySem.Challenge.pw_talkalike_k32_service_written.main.body.getD i (.Pass ⟨0, 0, 0, 0⟩)
abbrev s__law_deck : Stmt := topS 57
abbrev sc__law_deckN : List Str := [(PySem.Str.ofString "_law_script"), (PySem.Str.ofString "_law_seed"), (PySem.Str.ofString "_law_cell")]
theorem sc__law_deck : FnScope sc__law_deckN [(PySem.Str.ofString "_law_script")] (defScope s__law_deck) := ⟨rfl, rfl, rfl, by decide +kernel, rfl, by decide +kernel, by decide +kernel⟩
abbrev s__law_draw : Stmt := topS 58
abbrev sc__law_drawN : List Str := [(PySem.Str.ofString "_law_deck_here"), (PySem.Str.ofString "_law_bound"), (PySem.Str.ofString "_law_value")]
theorem sc__law_draw : FnScope sc__law_drawN [(PySem.Str.ofString "_law_deck_here"), (PySem.Str.ofString "_law_bound")] (defScope s__law_draw) := ⟨rfl, rfl, rfl, by decide +kernel, rfl, by decide +kernel, by decide +kernel⟩
abbrev s__law_letter : Stmt := topS 59
abbrev sc__law_letterN : List Str := [(PySem.Str.ofString "_law_deck_here")]
theorem sc__law_letter : FnScope sc__law_letterN [(PySem.Str.ofString "_law_deck_here")] (defScope s__law_letter) := ⟨rfl, rfl, rfl, by decide +kernel, rfl, by decide +kernel, by decide +kernel⟩
abbrev s__law_text : Stmt := topS 60
abbrev sc__law_textN : List Str := [(PySem.Str.ofString "_law_deck_here"), (PySem.Str.ofString "_law_most"), (PySem.Str.ofString "_law_size"), (PySem.Str.ofString "_law_k")]
theorem sc__law_text : FnScope sc__law_textN [(PySem.Str.ofString "_law_deck_here"), (PySem.Str.ofString "_law_most")] (defScope s__law_text) := ⟨rfl, rfl, rfl, by decide +kernel, rfl, by decide +kernel, by decide +kernel⟩
abbrev s__law_names : Stmt := topS 61
abbrev sc__law_namesN : List Str := [(PySem.Str.ofString "_law_deck_here"), (PySem.Str.ofString "_law_count"), (PySem.Str.ofString "_law_barred"), (PySem.Str.ofString "_law_names_here"), (PySem.Str.ofString "_law_k"), (PySem.Str.ofString "_law_name"), (PySem.Str.ofString "_law_tail")]
theorem sc__law_names : FnScope sc__law_namesN [(PySem.Str.ofString "_law_deck_here"), (PySem.Str.ofString "_law_count"), (PySem.Str.ofString "_law_barred")] (defScope s__law_names) := ⟨rfl, rfl, rfl, by decide +kernel, rfl, by decide +kernel, by decide +kernel⟩
abbrev s__law_pattern : Stmt := topS 62
abbrev sc__law_patternN : List Str := [(PySem.Str.ofString "_law_deck_here"), (PySem.Str.ofString "_law_pattern_here"), (PySem.Str.ofString "_law_k"), (PySem.Str.ofString "_law_sign")]
theorem sc__law_pattern : FnScope sc__law_patternN [(PySem.Str.ofString "_law_deck_here")] (defScope s__law_pattern) := ⟨rfl, rfl, rfl, by decide +kernel, rfl, by decide +kernel, by decide +kernel⟩
abbrev s__law_part : Stmt := topS 63
abbrev sc__law_partN : List Str := [(PySem.Str.ofString "_law_deck_here"), (PySem.Str.ofString "_law_names_here"), (PySem.Str.ofString "_law_registers"), (PySem.Str.ofString "_law_depth"), (PySem.Str.ofString "_law_kind"), (PySem.Str.ofString "_law_count"), (PySem.Str.ofString "_law_parts"), (PySem.Str.ofString "_law_k")]
theorem sc__law_part : FnScope sc__law_partN [(PySem.Str.ofString "_law_deck_here"), (PySem.Str.ofString "_law_names_here"), (PySem.Str.ofString "_law_registers"), (PySem.Str.ofString "_law_depth")] (defScope s__law_part) := ⟨rfl, rfl, rfl, by decide +kernel, rfl, by decide +kernel, by decide +kernel⟩
abbrev s__law_condition : Stmt := topS 64
abbrev sc__law_conditionN : List Str := [(PySem.Str.ofString "_law_deck_here"), (PySem.Str.ofString "_law_names_here"), (PySem.Str.ofString "_law_registers"), (PySem.Str.ofString "_law_depth")]
theorem sc__law_condition : FnScope sc__law_conditionN [(PySem.Str.ofString "_law_deck_here"), (PySem.Str.ofString "_law_names_here"), (PySem.Str.ofString "_law_registers"), (PySem.Str.ofString "_law_depth")] (defScope s__law_condition) := ⟨rfl, rfl, rfl, by decide +kernel, rfl, by decide +kernel, by decide +kernel⟩
abbrev s__law_source : Stmt := topS 65
abbrev sc__law_sourceN : List Str := [(PySem.Str.ofString "_law_deck_here"), (PySem.Str.ofString "_law_names_here"), (PySem.Str.ofString "_law_kind")]
theorem sc__law_source : FnScope sc__law_sourceN [(PySem.Str.ofString "_law_deck_here"), (PySem.Str.ofString "_law_names_here")] (defScope s__law_source) := ⟨rfl, rfl, rfl, by decide +kernel, rfl, by decide +kernel, by decide +kernel⟩
abbrev s__law_line : Stmt := topS 66
abbrev sc__law_lineN : List Str := [(PySem.Str.ofString "_law_deck_here"), (PySem.Str.ofString "_law_names_here"), (PySem.Str.ofString "_law_kind")]
theorem sc__law_line : FnScope sc__law_lineN [(PySem.Str.ofString "_law_deck_here"), (PySem.Str.ofString "_law_names_here")] (defScope s__law_line) := ⟨rfl, rfl, rfl, by decide +kernel, rfl, by decide +kernel, by decide +kernel⟩
abbrev s__law_rule : Stmt := topS 67
abbrev sc__law_ruleN : List Str := [(PySem.Str.ofString "_law_deck_here"), (PySem.Str.ofString "_law_stations"), (PySem.Str.ofString "_law_registers"), (PySem.Str.ofString "_law_requests"), (PySem.Str.ofString "_law_first"), (PySem.Str.ofString "_law_kind"), (PySem.Str.ofString "_law_names_here"), (PySem.Str.ofString "_law_station"), (PySem.Str.ofString "_law_condition_here"), (PySem.Str.ofString "_law_word"), (PySem.Str.ofString "_law_answer"), (PySem.Str.ofString "_law_turn"), (PySem.Str.ofString "_law_k")]
theorem sc__law_rule : FnScope sc__law_ruleN [(PySem.Str.ofString "_law_deck_here"), (PySem.Str.ofString "_law_stations"), (PySem.Str.ofString "_law_registers"), (PySem.Str.ofString "_law_requests"), (PySem.Str.ofString "_law_first")] (defScope s__law_rule) := ⟨rfl, rfl, rfl, by decide +kernel, rfl, by decide +kernel, by decide +kernel⟩
abbrev s__law_service : Stmt := topS 68
abbrev sc__law_serviceN : List Str := [(PySem.Str.ofString "_law_deck_here"), (PySem.Str.ofString "_law_stations"), (PySem.Str.ofString "_law_registers"), (PySem.Str.ofString "_law_words"), (PySem.Str.ofString "_law_requests"), (PySem.Str.ofString "_law_word"), (PySem.Str.ofString "_law_rules"), (PySem.Str.ofString "_law_k")]
theorem sc__law_service : FnScope sc__law_serviceN [(PySem.Str.ofString "_law_deck_here")] (defScope s__law_service) := ⟨rfl, rfl, rfl, by decide +kernel, rfl, by decide +kernel, by decide +kernel⟩
abbrev s_is_name : Stmt := topS 34
abbrev sc_is_nameN : List Str := [(PySem.Str.ofString "value"), (PySem.Str.ofString "letter")]
theorem sc_is_name : FnScope sc_is_nameN [(PySem.Str.ofString "value")] (defScope s_is_name) := ⟨rfl, rfl, rfl, by decide +kernel, rfl, by decide +kernel, by decide +kernel⟩
abbrev s_check_names : Stmt := topS 49
abbrev sc_check_namesN : List Str := [(PySem.Str.ofString "names"), (PySem.Str.ofString "at"), (PySem.Str.ofString "name")]
theorem sc_check_names : FnScope sc_check_namesN [(PySem.Str.ofString "names")] (defScope s_check_names) := ⟨rfl, rfl, rfl, by decide +kernel, rfl, by decide +kernel, by decide +kernel⟩
abbrev s_is_kind : Stmt := topS 35
abbrev sc_is_kindN : List Str := [(PySem.Str.ofString "kind"), (PySem.Str.ofString "registers"), (PySem.Str.ofString "names"), (PySem.Str.ofString "k"), (PySem.Str.ofString "name")]
theorem sc_is_kind : FnScope sc_is_kindN [(PySem.Str.ofString "kind"), (PySem.Str.ofString "registers")] (defScope s_is_kind) := ⟨rfl, rfl, rfl, by decide +kernel, rfl, by decide +kernel, by decide +kernel⟩
abbrev s_check_kinds : Stmt := topS 36
abbrev sc_check_kindsN : List Str := [(PySem.Str.ofString "kinds"), (PySem.Str.ofString "registers"), (PySem.Str.ofString "kind"), (PySem.Str.ofString "names"), (PySem.Str.ofString "k")]
theorem sc_check_kinds : FnScope sc_check_kindsN [(PySem.Str.ofString "kinds"), (PySem.Str.ofString "registers")] (defScope s_check_kinds) := ⟨rfl, rfl, rfl, by decide +kernel, rfl, by decide +kernel, by decide +kernel⟩
abbrev s_check_name : Stmt := topS 26
abbrev sc_check_nameN : List Str := [(PySem.Str.ofString "name"), (PySem.Str.ofString "names")]
theorem sc_check_name : FnScope sc_check_nameN [(PySem.Str.ofString "name"), (PySem.Str.ofString "names")] (defScope s_check_name) := ⟨rfl, rfl, rfl, by decide +kernel, rfl, by decide +kernel, by decide +kernel⟩
abbrev s_is_pattern : Stmt := topS 19
abbrev sc_is_patternN : List Str := [(PySem.Str.ofString "value"), (PySem.Str.ofString "sign")]
theorem sc_is_pattern : FnScope sc_is_patternN [(PySem.Str.ofString "value")] (defScope s_is_pattern) := ⟨rfl, rfl, rfl, by decide +kernel, rfl, by decide +kernel, by decide +kernel⟩
abbrev s_check_node : Stmt := topS 27
abbrev sc_check_nodeN : List Str := [(PySem.Str.ofString "condition"), (PySem.Str.ofString "names"), (PySem.Str.ofString "registers"), (PySem.Str.ofString "word")]
theorem sc_check_node : FnScope sc_check_nodeN [(PySem.Str.ofString "condition"), (PySem.Str.ofString "names"), (PySem.Str.ofString "registers")] (defScope s_check_node) := ⟨rfl, rfl, rfl, by decide +kernel, rfl, by decide +kernel, by decide +kernel⟩
abbrev s_parts_of : Stmt := topS 24
abbrev sc_parts_ofN : List Str := [(PySem.Str.ofString "condition")]
theorem sc_parts_of : FnScope sc_parts_ofN [(PySem.Str.ofString "condition")] (defScope s_parts_of) := ⟨rfl, rfl, rfl, by decide +kernel, rfl, by decide +kernel, by decide +kernel⟩
abbrev s_check_parts : Stmt := topS 28
abbrev sc_check_partsN : List Str := [(PySem.Str.ofString "condition"), (PySem.Str.ofString "names"), (PySem.Str.ofString "registers"), (PySem.Str.ofString "depth"), (PySem.Str.ofString "part")]
theorem sc_check_parts : FnScope sc_check_partsN [(PySem.Str.ofString "condition"), (PySem.Str.ofString "names"), (PySem.Str.ofString "registers"), (PySem.Str.ofString "depth")] (defScope s_check_parts) := ⟨rfl, rfl, rfl, by decide +kernel, rfl, by decide +kernel, by decide +kernel⟩
abbrev s_size_of : Stmt := topS 25
abbrev sc_size_ofN : List Str := [(PySem.Str.ofString "condition"), (PySem.Str.ofString "part")]
theorem sc_size_of : FnScope sc_size_ofN [(PySem.Str.ofString "condition")] (defScope s_size_of) := ⟨rfl, rfl, rfl, by decide +kernel, rfl, by decide +kernel, by decide +kernel⟩
abbrev s_check_condition : Stmt := topS 29
abbrev sc_check_conditionN : List Str := [(PySem.Str.ofString "condition"), (PySem.Str.ofString "names"), (PySem.Str.ofString "registers")]
theorem sc_check_condition : FnScope sc_check_conditionN [(PySem.Str.ofString "condition"), (PySem.Str.ofString "names"), (PySem.Str.ofString "registers")] (defScope s_check_condition) := ⟨rfl, rfl, rfl, by decide +kernel, rfl, by decide +kernel, by decide +kernel⟩
abbrev s_is_text : Stmt := topS 15
abbrev sc_is_textN : List Str := [(PySem.Str.ofString "value"), (PySem.Str.ofString "char")]
theorem sc_is_text : FnScope sc_is_textN [(PySem.Str.ofString "value")] (defScope s_is_text) := ⟨rfl, rfl, rfl, by decide +kernel, rfl, by decide +kernel, by decide +kernel⟩
abbrev s_check_source : Stmt := topS 41
abbrev sc_check_sourceN : List Str := [(PySem.Str.ofString "source"), (PySem.Str.ofString "names"), (PySem.Str.ofString "word"), (PySem.Str.ofString "told")]
theorem sc_check_source : FnScope sc_check_sourceN [(PySem.Str.ofString "source"), (PySem.Str.ofString "names")] (defScope s_check_source) := ⟨rfl, rfl, rfl, by decide +kernel, rfl, by decide +kernel, by decide +kernel⟩
abbrev s_check_answer : Stmt := topS 43
abbrev sc_check_answerN : List Str := [(PySem.Str.ofString "answer"), (PySem.Str.ofString "names"), (PySem.Str.ofString "source")]
theorem sc_check_answer : FnScope sc_check_answerN [(PySem.Str.ofString "answer"), (PySem.Str.ofString "names")] (defScope s_check_answer) := ⟨rfl, rfl, rfl, by decide +kernel, rfl, by decide +kernel, by decide +kernel⟩
abbrev s_check_line : Stmt := topS 42
abbrev sc_check_lineN : List Str := [(PySem.Str.ofString "line"), (PySem.Str.ofString "names")]
theorem sc_check_line : FnScope sc_check_lineN [(PySem.Str.ofString "line"), (PySem.Str.ofString "names")] (defScope s_check_line) := ⟨rfl, rfl, rfl, by decide +kernel, rfl, by decide +kernel, by decide +kernel⟩
abbrev s_value_names : Stmt := topS 40
abbrev sc_value_namesN : List Str := [(PySem.Str.ofString "requests"), (PySem.Str.ofString "name"), (PySem.Str.ofString "kind")]
theorem sc_value_names : FnScope sc_value_namesN [(PySem.Str.ofString "requests"), (PySem.Str.ofString "name")] (defScope s_value_names) := ⟨rfl, rfl, rfl, by decide +kernel, rfl, by decide +kernel, by decide +kernel⟩
abbrev s_check_rule : Stmt := topS 44
abbrev sc_check_ruleN : List Str := [(PySem.Str.ofString "rule"), (PySem.Str.ofString "stations"), (PySem.Str.ofString "registers"), (PySem.Str.ofString "requests"), (PySem.Str.ofString "station"), (PySem.Str.ofString "request"), (PySem.Str.ofString "condition"), (PySem.Str.ofString "answer"), (PySem.Str.ofString "turn"), (PySem.Str.ofString "following"), (PySem.Str.ofString "names"), (PySem.Str.ofString "line")]
theorem sc_check_rule : FnScope sc_check_ruleN [(PySem.Str.ofString "rule"), (PySem.Str.ofString "stations"), (PySem.Str.ofString "registers"), (PySem.Str.ofString "requests")] (defScope s_check_rule) := ⟨rfl, rfl, rfl, by decide +kernel, rfl, by decide +kernel, by decide +kernel⟩
abbrev s_Service_m_init : Stmt := (clsB (topS 50)).getD 0 (.Pass ⟨0, 0, 0, 0⟩)
abbrev sc_Service_m_initN : List Str := [(PySem.Str.ofString "self"), (PySem.Str.ofString "stations"), (PySem.Str.ofString "registers"), (PySem.Str.ofString "requests"), (PySem.Str.ofString "rules"), (PySem.Str.ofString "rule")]
theorem sc_Service_m_init : FnScope sc_Service_m_initN [(PySem.Str.ofString "self"), (PySem.Str.ofString "stations"), (PySem.Str.ofString "registers"), (PySem.Str.ofString "requests"), (PySem.Str.ofString "rules")] (defScope s_Service_m_init) := ⟨rfl, rfl, rfl, by decide +kernel, rfl, by decide +kernel, by decide +kernel⟩
abbrev s__law_text_of : Stmt := topS 73
abbrev sc__law_text_ofN : List Str := [(PySem.Str.ofString "_law_lines_here"), (PySem.Str.ofString "_law_line_here")]
theorem sc__law_text_of : FnScope sc__law_text_ofN [(PySem.Str.ofString "_law_lines_here")] (defScope s__law_text_of) := ⟨rfl, rfl, rfl, by decide +kernel, rfl, by decide +kernel, by decide +kernel⟩
abbrev s__law_words_of_condition : Stmt := topS 69
abbrev sc__law_words_of_conditionN : List Str := [(PySem.Str.ofString "_law_condition_here"), (PySem.Str.ofString "_law_words"), (PySem.Str.ofString "_law_part_here")]
theorem sc__law_words_of_condition : FnScope sc__law_words_of_conditionN [(PySem.Str.ofString "_law_condition_here")] (defScope s__law_words_of_condition) := ⟨rfl, rfl, rfl, by decide +kernel, rfl, by decide +kernel, by decide +kernel⟩
abbrev s__law_words_of_line : Stmt := topS 70
abbrev sc__law_words_of_lineN : List Str := [(PySem.Str.ofString "_law_line_here")]
theorem sc__law_words_of_line : FnScope sc__law_words_of_lineN [(PySem.Str.ofString "_law_line_here")] (defScope s__law_words_of_line) := ⟨rfl, rfl, rfl, by decide +kernel, rfl, by decide +kernel, by decide +kernel⟩
abbrev s__law_line_of_rule : Stmt := topS 71
abbrev sc__law_line_of_ruleN : List Str := [(PySem.Str.ofString "_law_rule_here"), (PySem.Str.ofString "_law_words"), (PySem.Str.ofString "_law_source_here"), (PySem.Str.ofString "_law_line_here")]
theorem sc__law_line_of_rule : FnScope sc__law_line_of_ruleN [(PySem.Str.ofString "_law_rule_here")] (defScope s__law_line_of_rule) := ⟨rfl, rfl, rfl, by decide +kernel, rfl, by decide +kernel, by decide +kernel⟩
abbrev s__law_lines : Stmt := topS 72
abbrev sc__law_linesN : List Str := [(PySem.Str.ofString "_law_service_here"), (PySem.Str.ofString "_law_lines_here"), (PySem.Str.ofString "_law_kind"), (PySem.Str.ofString "_law_rule_here")]
theorem sc__law_lines : FnScope sc__law_linesN [(PySem.Str.ofString "_law_service_here")] (defScope s__law_lines) := ⟨rfl, rfl, rfl, by decide +kernel, rfl, by decide +kernel, by decide +kernel⟩
abbrev s_format_condition : Stmt := topS 52
abbrev sc_format_conditionN : List Str := [(PySem.Str.ofString "condition"), (PySem.Str.ofString "word"), (PySem.Str.ofString "words"), (PySem.Str.ofString "part")]
theorem sc_format_condition : FnScope sc_format_conditionN [(PySem.Str.ofString "condition")] (defScope s_format_condition) := ⟨rfl, rfl, rfl, by decide +kernel, rfl, by decide +kernel, by decide +kernel⟩
abbrev s_format_line : Stmt := topS 53
abbrev sc_format_lineN : List Str := [(PySem.Str.ofString "line"), (PySem.Str.ofString "word")]
theorem sc_format_line : FnScope sc_format_lineN [(PySem.Str.ofString "line")] (defScope s_format_line) := ⟨rfl, rfl, rfl, by decide +kernel, rfl, by decide +kernel, by decide +kernel⟩
abbrev s_format_rule : Stmt := topS 54
abbrev sc_format_ruleN : List Str := [(PySem.Str.ofString "rule"), (PySem.Str.ofString "station"), (PySem.Str.ofString "words"), (PySem.Str.ofString "source"), (PySem.Str.ofString "line")]
theorem sc_format_rule : FnScope sc_format_ruleN [(PySem.Str.ofString "rule")] (defScope s_format_rule) := ⟨rfl, rfl, rfl, by decide +kernel, rfl, by decide +kernel, by decide +kernel⟩
abbrev s_Service_p_stations : Stmt := (clsB (topS 50)).getD 1 (.Pass ⟨0, 0, 0, 0⟩)
abbrev sc_Service_p_stationsN : List Str := [(PySem.Str.ofString "self")]
theorem sc_Service_p_stations : FnScope sc_Service_p_stationsN [(PySem.Str.ofString "self")] (defScope s_Service_p_stations) := ⟨rfl, rfl, rfl, by decide +kernel, rfl, by decide +kernel, by decide +kernel⟩
abbrev s_Service_p_registers : Stmt := (clsB (topS 50)).getD 2 (.Pass ⟨0, 0, 0, 0⟩)
abbrev sc_Service_p_registersN : List Str := [(PySem.Str.ofString "self")]
theorem sc_Service_p_registers : FnScope sc_Service_p_registersN [(PySem.Str.ofString "self")] (defScope s_Service_p_registers) := ⟨rfl, rfl, rfl, by decide +kernel, rfl, by decide +kernel, by decide +kernel⟩
abbrev s_Service_p_requests : Stmt := (clsB (topS 50)).getD 3 (.Pass ⟨0, 0, 0, 0⟩)
abbrev sc_Service_p_requestsN : List Str := [(PySem.Str.ofString "self")]
theorem sc_Service_p_requests : FnScope sc_Service_p_requestsN [(PySem.Str.ofString "self")] (defScope s_Service_p_requests) := ⟨rfl, rfl, rfl, by decide +kernel, rfl, by decide +kernel, by decide +kernel⟩
abbrev s_Service_p_rules : Stmt := (clsB (topS 50)).getD 4 (.Pass ⟨0, 0, 0, 0⟩)
abbrev sc_Service_p_rulesN : List Str := [(PySem.Str.ofString "self")]
theorem sc_Service_p_rules : FnScope sc_Service_p_rulesN [(PySem.Str.ofString "self")] (defScope s_Service_p_rules) := ⟨rfl, rfl, rfl, by decide +kernel, rfl, by decide +kernel, by decide +kernel⟩
abbrev s_format_service : Stmt := topS 55
abbrev sc_format_serviceN : List Str := [(PySem.Str.ofString "service"), (PySem.Str.ofString "lines"), (PySem.Str.ofString "kind"), (PySem.Str.ofString "rule")]
theorem sc_format_service : FnScope sc_format_serviceN [(PySem.Str.ofString "service")] (defScope s_format_service) := ⟨rfl, rfl, rfl, by decide +kernel, rfl, by decide +kernel, by decide +kernel⟩
abbrev s_law : Stmt := topS 74
abbrev sc_lawN : List Str := [(PySem.Str.ofString "_law_script"), (PySem.Str.ofString "_law_deck_here"), (PySem.Str.ofString "_law_parts"), (PySem.Str.ofString "_law_service_here"), (PySem.Str.ofString "_law_due"), (PySem.Str.ofString "_law_k"), (PySem.Str.ofString "_law_told")]
theorem sc_law : FnScope sc_lawN [(PySem.Str.ofString "_law_script")] (defScope s_law) := ⟨rfl, rfl, rfl, by decide +kernel, rfl, by decide +kernel, by decide +kernel⟩
abbrev m_TalkError : Stmt := (clsB (topS 1)).getD 0 (.Pass ⟨0, 0, 0, 0⟩)
theorem scm_TalkError : FnScope [(PySem.Str.ofString "self"), (PySem.Str.ofString "word"), (PySem.Str.ofString "place")] [(PySem.Str.ofString "self"), (PySem.Str.ofString "word"), (PySem.Str.ofString "place")] (defScope m_TalkError) := ⟨rfl, rfl, rfl, by decide +kernel, rfl, by decide +kernel, by decide +kernel⟩
abbrev m_BadPattern : Stmt := (clsB (topS 2)).getD 0 (.Pass ⟨0, 0, 0, 0⟩)
theorem scm_BadPattern : FnScope [(PySem.Str.ofString "self"), (PySem.Str.ofString "place")] [(PySem.Str.ofString "self"), (PySem.Str.ofString "place")] (defScope m_BadPattern) := ⟨rfl, rfl, rfl, by decide +kernel, rfl, by decide +kernel, by decide +kernel⟩
abbrev m_BadKinds : Stmt := (clsB (topS 3)).getD 0 (.Pass ⟨0, 0, 0, 0⟩)
theorem scm_BadKinds : FnScope [(PySem.Str.ofString "self"), (PySem.Str.ofString "place")] [(PySem.Str.ofString "self"), (PySem.Str.ofString "place")] (defScope m_BadKinds) := ⟨rfl, rfl, rfl, by decide +kernel, rfl, by decide +kernel, by decide +kernel⟩
abbrev m_BadCondition : Stmt := (clsB (topS 4)).getD 0 (.Pass ⟨0, 0, 0, 0⟩)
theorem scm_BadCondition : FnScope [(PySem.Str.ofString "self"), (PySem.Str.ofString "place")] [(PySem.Str.ofString "self"), (PySem.Str.ofString "place")] (defScope m_BadCondition) := ⟨rfl, rfl, rfl, by decide +kernel, rfl, by decide +kernel, by decide +kernel⟩
abbrev m_UnknownName : Stmt := (clsB (topS 5)).getD 0 (.Pass ⟨0, 0, 0, 0⟩)
theorem scm_UnknownName : FnScope [(PySem.Str.ofString "self"), (PySem.Str.ofString "place")] [(PySem.Str.ofString "self"), (PySem.Str.ofString "place")] (defScope m_UnknownName) := ⟨rfl, rfl, rfl, by decide +kernel, rfl, by decide +kernel, by decide +kernel⟩
abbrev m_UnknownStation : Stmt := (clsB (topS 6)).getD 0 (.Pass ⟨0, 0, 0, 0⟩)
theorem scm_UnknownStation : FnScope [(PySem.Str.ofString "self"), (PySem.Str.ofString "place")] [(PySem.Str.ofString "self"), (PySem.Str.ofString "place")] (defScope m_UnknownStation) := ⟨rfl, rfl, rfl, by decide +kernel, rfl, by decide +kernel, by decide +kernel⟩
abbrev m_UnknownRequest : Stmt := (clsB (topS 7)).getD 0 (.Pass ⟨0, 0, 0, 0⟩)
theorem scm_UnknownRequest : FnScope [(PySem.Str.ofString "self"), (PySem.Str.ofString "place")] [(PySem.Str.ofString "self"), (PySem.Str.ofString "place")] (defScope m_UnknownRequest) := ⟨rfl, rfl, rfl, by decide +kernel, rfl, by decide +kernel, by decide +kernel⟩
abbrev m_BadRule : Stmt := (clsB (topS 8)).getD 0 (.Pass ⟨0, 0, 0, 0⟩)
theorem scm_BadRule : FnScope [(PySem.Str.ofString "self"), (PySem.Str.ofString "place")] [(PySem.Str.ofString "self"), (PySem.Str.ofString "place")] (defScope m_BadRule) := ⟨rfl, rfl, rfl, by decide +kernel, rfl, by decide +kernel, by decide +kernel⟩
abbrev m_BadSource : Stmt := (clsB (topS 9)).getD 0 (.Pass ⟨0, 0, 0, 0⟩)
theorem scm_BadSource : FnScope [(PySem.Str.ofString "self"), (PySem.Str.ofString "place")] [(PySem.Str.ofString "self"), (PySem.Str.ofString "place")] (defScope m_BadSource) := ⟨rfl, rfl, rfl, by decide +kernel, rfl, by decide +kernel, by decide +kernel⟩
abbrev m_BadCount : Stmt := (clsB (topS 10)).getD 0 (.Pass ⟨0, 0, 0, 0⟩)
theorem scm_BadCount : FnScope [(PySem.Str.ofString "self"), (PySem.Str.ofString "place")] [(PySem.Str.ofString "self"), (PySem.Str.ofString "place")] (defScope m_BadCount) := ⟨rfl, rfl, rfl, by decide +kernel, rfl, by decide +kernel, by decide +kernel⟩
abbrev m_BadName : Stmt := (clsB (topS 11)).getD 0 (.Pass ⟨0, 0, 0, 0⟩)
theorem scm_BadName : FnScope [(PySem.Str.ofString "self"), (PySem.Str.ofString "place")] [(PySem.Str.ofString "self"), (PySem.Str.ofString "place")] (defScope m_BadName) := ⟨rfl, rfl, rfl, by decide +kernel, rfl, by decide +kernel, by decide +kernel⟩
abbrev m_DuplicateName : Stmt := (clsB (topS 12)).getD 0 (.Pass ⟨0, 0, 0, 0⟩)
theorem scm_DuplicateName : FnScope [(PySem.Str.ofString "self"), (PySem.Str.ofString "place")] [(PySem.Str.ofString "self"), (PySem.Str.ofString "place")] (defScope m_DuplicateName) := ⟨rfl, rfl, rfl, by decide +kernel, rfl, by decide +kernel, by decide +kernel⟩
/-! ### what each def computes -/
noncomputable section
def B__law_deck_0 : M Fl :=
  (sSet 1 (ap gMod [.v (ap gInt [.v (ap gAdd [.v (ap gMul [.b 1, .v (eC (.int 48271))]), .b 2])]), .v (eC (.int 2147483647))]))
def G__law_deck : M Fl :=
  (sSeq (sSet 1 (eC (.int 7)))
  (sSeq (sFor (sSeqD (eVar 0)) (.n 2)
    B__law_deck_0)
  (sRet (eLst [(eC (.int 0)), (eC (.int 0)), (eVar 1), (ap gListX [.b 0]), (eC (.int 19))]))))
def F__law_deck : Fn := mkF 3 [0] G__law_deck
def G__law_draw : M Fl :=
  (sSeq (sIf (cAnd (tst (ap gEq [.v (ap gIx [.b 0, .v (eC (.int 0))]), .v (eC (.int 0))])) (tst (ap gLtX [.v (ap gIx [.b 0, .v (eC (.int 1))]), .v (ap gLen [.v (ap gIx [.b 0, .v (eC (.int 3))])])])))
    (sSeq (sSetIx 0 (eC (.int 0)) (ap gAbs [.v (ap gIx [.v (ap gIx [.b 0, .v (eC (.int 3))]), .v (ap gIx [.b 0, .v (eC (.int 1))])])]))
  (sSetIx 0 (eC (.int 1)) (ap gAdd [.v (ap gIx [.b 0, .v (eC (.int 1))]), .v (eC (.int 1))])))
    (sIf (tst (ap gEq [.v (ap gIx [.b 0, .v (eC (.int 0))]), .v (eC (.int 0))]))
    (sSeq (sSetIx 0 (eC (.int 2)) (ap gMod [.v (ap gInt [.v (ap gAdd [.v (ap gMul [.v (ap gIx [.b 0, .v (eC (.int 2))]), .v (eC (.int 48271))]), .v (eC (.int 11))])]), .v (eC (.int 2147483647))]))
  (sSetIx 0 (eC (.int 0)) (ap gDiv [.v (ap gIx [.b 0, .v (eC (.int 2))]), .v (eC (.int 5))])))
    sNext))
  (sSeq (sSet 2 (ap gMod [.v (ap gInt [.v (ap gIx [.b 0, .v (eC (.int 0))])]), .b 1]))
  (sSeq (sSetIx 0 (eC (.int 0)) (ap gDiv [.v (ap gIx [.b 0, .v (eC (.int 0))]), .b 1]))
  (sRet (eMove 2)))))
def F__law_draw : Fn := mkF 3 [0, 1] G__law_draw
def G__law_letter : M Fl :=
  (sSeq (sIf (tst (ap gEq [.v (eCall F__law_draw [.b 0, .v (eC (.int 2))] []), .v (eC (.int 0))]))
    (sRet (ap gIx [.v (eC (.str (PySem.Str.ofString "ab"))), .v (eCall F__law_draw [.b 0, .v (eC (.int 2))] [])]))
    sNext)
  (sRet (ap gIx [.v (eC (.str (PySem.Str.ofString "abcdefghijklmnopqrstuvwxyz"))), .v (eCall F__law_draw [.b 0, .v (eC (.int 26))] [])])))
def F__law_letter : Fn := mkF 1 [0] G__law_letter
def C__law_text_0 : M O :=
  (eCall F__law_letter [.b 0] [])
def G__law_text : M Fl :=
  (sSeq (sSet 2 (eCall F__law_draw [.b 0, .v (ap gAdd [.b 1, .v (eC (.int 1))])] []))
  (sRet (apM isStr gJoin (.v (eC (.str (PySem.Str.ofString "")))) [.v (eComp [3] (sRng1 (.b 2)) (.n 3) cYes C__law_text_0)])))
def F__law_text : Fn := mkF 4 [0, 1] G__law_text
def B__law_names_0 : M Fl :=
  (sSeq (sIf (cAnd (tst (ap gNotIn [.b 5, .b 3])) (tst (ap gNotIn [.b 5, .b 2])))
    sBrk
    sNext)
  (sSet 5 (ap gAdd [.b 5, .v (ap gIx [.v (eC (.str (PySem.Str.ofString "abcdefghijklmnopqrstuvwxyz"))), .v (ap gMod [.v (ap gInt [.v (ap gAdd [.v (ap gMul [.b 4, .v (eC (.int 7))]), .b 6])]), .v (eC (.int 26))])])])))
def B__law_names_1 : M Fl :=
  (sSeq (sSet 5 (ap gAdd [.v (eCall F__law_letter [.b 0] []), .v (eCall F__law_text [.b 0, .v (eC (.int 2))] [])]))
  (sSeq (sFor (sRng1 (.v (eC (.int 9)))) (.n 6)
    B__law_names_0)
  (sDrop (eMut1 gApp 3 (eVar 5)))))
def G__law_names : M Fl :=
  (sSeq (sSet 3 (eLst []))
  (sSeq (sFor (sRng1 (.b 1)) (.n 4)
    B__law_names_1)
  (sRet (eMove 3))))
def F__law_names : Fn := mkF 7 [0, 1, 2] G__law_names
def B__law_pattern_0 : M Fl :=
  (sSeq (sSet 3 (eCall F__law_draw [.b 0, .v (eC (.int 5))] []))
  (sIf (tst (ap gEq [.b 3, .v (eC (.int 0))]))
    (sSet 1 (ap gAdd [.b 1, .v (eC (.str (PySem.Str.ofString "?")))]))
    (sIf (cAnd (tst (ap gEq [.b 3, .v (eC (.int 1))])) (tst (ap gLtX [.v (apM isStr gCount (.b 1) [.v (eC (.str (PySem.Str.ofString "*")))]), .v (eC (.int 2))])))
    (sSet 1 (ap gAdd [.b 1, .v (eC (.str (PySem.Str.ofString "*")))]))
    (sSet 1 (ap gAdd [.b 1, .v (eCall F__law_letter [.b 0] [])])))))
def G__law_pattern : M Fl :=
  (sSeq (sSet 1 (eC (.str (PySem.Str.ofString ""))))
  (sSeq (sFor (sRng1 (.v (eCall F__law_draw [.b 0, .v (eC (.int 6))] []))) (.n 2)
    B__law_pattern_0)
  (sRet (eMove 1))))
def F__law_pattern : Fn := mkF 4 [0] G__law_pattern
def C__law_part_0 (S__law_part : Fn) : M O :=
  (eCall S__law_part [.b 0, .b 1, .b 2, .v (ap gSub [.b 3, .v (eC (.int 1))])] [])
def G__law_part (S__law_part : Fn) : M Fl :=
  (sSeq (sSet 4 (eCall F__law_draw [.b 0, .v (eC (.int 9))] []))
  (sSeq (sIf (cAnd (tst (ap gLtX [.b 4, .v (eC (.int 3))])) (tst (ap gGt [.b 3, .v (eC (.int 1))])))
    (sSeq (sSet 5 (eCall F__law_draw [.b 0, .v (eC (.int 4))] []))
  (sSeq (sIf (tst (ap gEq [.v (eCall F__law_draw [.b 0, .v (eC (.int 12))] []), .v (eC (.int 0))]))
    (sSet 5 (ap gAdd [.v (eC (.int 5)), .v (eCall F__law_draw [.b 0, .v (eC (.int 15))] [])]))
    sNext)
  (sSeq (sSet 5 (ap gMin2 [.b 5, .v (ap gIx [.b 0, .v (eC (.int 4))])]))
  (sSeq (sSetIx 0 (eC (.int 4)) (ap gSub [.v (ap gIx [.b 0, .v (eC (.int 4))]), .b 5]))
  (sSeq (sSet 6 (eComp [7] (sRng1 (.b 5)) (.n 7) cYes (C__law_part_0 S__law_part)))
  (sSeq (sIf (cAnd (tst (ap gGt [.b 5, .v (eC (.int 0))])) (cAnd (tst (ap gGt [.v (ap gIx [.b 0, .v (eC (.int 4))]), .v (eC (.int 0))])) (cAnd (tst (ap gLtX [.v (ap gLen [.v (ap gIx [.b 6, .v (eC (.int 0))])]), .v (eC (.int 4))])) (tst (ap gIn [.v (ap gIx [.v (ap gIx [.b 6, .v (eC (.int 0))]), .v (eC (.int 0))]), .v (eLst [(eC (.str (PySem.Str.ofString "matches"))), (eC (.str (PySem.Str.ofString "empty"))), (eC (.str (PySem.Str.ofString "never")))])])))))
    (sSeq (sSetIx 0 (eC (.int 4)) (ap gSub [.v (ap gIx [.b 0, .v (eC (.int 4))]), .v (eC (.int 1))]))
  (sDrop (eMut1 gApp 6 (ap gIx [.b 6, .v (eC (.int 0))]))))
    sNext)
  (sRet (ap gAdd [.v (eTup [(ap gIx [.v (eLst [(eC (.str (PySem.Str.ofString "and"))), (eC (.str (PySem.Str.ofString "or")))]), .v (eCall F__law_draw [.b 0, .v (eC (.int 2))] [])])]), .v (ap gTuple [.b 6])]))))))))
    sNext)
  (sSeq (sIf (cAnd (tst (ap gEq [.b 4, .v (eC (.int 3))])) (cAnd (tst (ap gGt [.b 3, .v (eC (.int 1))])) (tst (ap gGt [.v (ap gIx [.b 0, .v (eC (.int 4))]), .v (eC (.int 0))]))))
    (sSeq (sSetIx 0 (eC (.int 4)) (ap gSub [.v (ap gIx [.b 0, .v (eC (.int 4))]), .v (eC (.int 1))]))
  (sRet (eTup [(eC (.str (PySem.Str.ofString "not"))), (eCall S__law_part [.b 0, .b 1, .b 2, .v (ap gSub [.b 3, .v (eC (.int 1))])] [])])))
    sNext)
  (sSeq (sIf (tst (ap gLtX [.b 4, .v (eC (.int 6))]))
    (sRet (eTup [(eC (.str (PySem.Str.ofString "matches"))), (ap gIx [.b 1, .v (eCall F__law_draw [.b 0, .v (ap gLen [.b 1])] [])]), (eCall F__law_pattern [.b 0] [])]))
    sNext)
  (sSeq (sIf (tst (ap gEq [.b 4, .v (eC (.int 6))]))
    (sRet (eTup [(eC (.str (PySem.Str.ofString "same"))), (ap gIx [.b 1, .v (eCall F__law_draw [.b 0, .v (ap gLen [.b 1])] [])]), (ap gIx [.b 1, .v (eCall F__law_draw [.b 0, .v (ap gLen [.b 1])] [])])]))
    sNext)
  (sSeq (sIf (cAnd (tst (ap gEq [.b 4, .v (eC (.int 7))])) (tst (ap gGt [.v (ap gLen [.b 2]), .v (eC (.int 0))])))
    (sRet (eTup [(eC (.str (PySem.Str.ofString "empty"))), (ap gIx [.b 2, .v (eCall F__law_draw [.b 0, .v (ap gLen [.b 2])] [])])]))
    sNext)
  (sRet (eTup [(ap gIx [.v (eLst [(eC (.str (PySem.Str.ofString "always"))), (eC (.str (PySem.Str.ofString "never")))]), .v (eCall F__law_draw [.b 0, .v (eC (.int 2))] [])])]))))))))
def F__law_part : Nat → Fn
  | 0 => fun _ => none
  | n + 1 => mkF 8 [0, 1, 2, 3] (G__law_part (F__law_part n))
def G__law_condition : M Fl :=
  (sSeq (sSetIx 0 (eC (.int 4)) (eC (.int 19)))
  (sRet (eCall (F__law_part 40) [.b 0, .b 1, .b 2, .b 3] [])))
def F__law_condition : Fn := mkF 4 [0, 1, 2, 3] G__law_condition
def G__law_source : M Fl :=
  (sSeq (sSet 2 (eCall F__law_draw [.b 0, .v (eC (.int 4))] []))
  (sSeq (sIf (tst (ap gLtX [.b 2, .v (eC (.int 2))]))
    (sRet (eTup [(eC (.str (PySem.Str.ofString "value"))), (ap gIx [.b 1, .v (eCall F__law_draw [.b 0, .v (ap gLen [.b 1])] [])])]))
    sNext)
  (sSeq (sIf (tst (ap gEq [.b 2, .v (eC (.int 2))]))
    (sRet (eTup [(eC (.str (PySem.Str.ofString "text"))), (eCall F__law_text [.b 0, .v (ap gIx [.v (eLst [(eC (.int 2)), (eC (.int 8))]), .v (eCall F__law_draw [.b 0, .v (eC (.int 2))] [])])] [])]))
    sNext)
  (sRet (eTup [(eC (.str (PySem.Str.ofString "fresh"))), (eCall F__law_draw [.b 0, .v (eC (.int 3))] [])])))))
def F__law_source : Fn := mkF 3 [0, 1] G__law_source
def G__law_line : M Fl :=
  (sSeq (sSet 2 (eCall F__law_draw [.b 0, .v (eC (.int 4))] []))
  (sSeq (sIf (tst (ap gLtX [.b 2, .v (eC (.int 2))]))
    (sRet (eTup [(ap gIx [.v (eLst [(eC (.str (PySem.Str.ofString "keep"))), (eC (.str (PySem.Str.ofString "clear")))]), .b 2])]))
    sNext)
  (sRet (eCall F__law_source [.b 0, .b 1] []))))
def F__law_line : Fn := mkF 3 [0, 1] G__law_line
def C__law_rule_0 : M O :=
  (eCall F__law_source [.b 0, .b 6] [])
def C__law_rule_1 : M O :=
  (eCall F__law_line [.b 0, .b 6] [])
def G__law_rule : M Fl :=
  (sSeq (sSet 5 (ap gIx [.b 3, .v (eC (.int 0))]))
  (sSeq (sIf (cNot (tru (.b 4)))
    (sSet 5 (ap gIx [.b 3, .v (eCall F__law_draw [.b 0, .v (ap gLen [.b 3])] [])]))
    sNext)
  (sSeq (sSet 6 (ap gAdd [.v (ap gAdd [.b 2, .v (ap gListX [.v (ap (gSl true false) [.b 5, .v (eC (.int 1))])])]), .v (eLst [(eC (.str (PySem.Str.ofString "self")))])]))
  (sSeq (sSet 7 (eC .non))
  (sSeq (sIf (cAnd (tst (ap gNe [.v (ap gIx [.b 5, .v (eC (.int 0))]), .v (eC (.str (PySem.Str.ofString "new")))])) (tst (ap gGt [.v (eCall F__law_draw [.b 0, .v (eC (.int 3))] []), .v (eC (.int 0))])))
    (sSet 7 (ap gIx [.b 1, .v (eCall F__law_draw [.b 0, .v (ap gLen [.b 1])] [])]))
    sNext)
  (sSeq (sSet 8 (eTup [(eC (.str (PySem.Str.ofString "always")))]))
  (sSeq (sIf (tst (ap gEq [.v (eCall F__law_draw [.b 0, .v (eC (.int 2))] []), .v (eC (.int 1))]))
    (sSet 8 (eCall F__law_condition [.b 0, .b 6, .b 2, .v (eC (.int 3))] []))
    sNext)
  (sSeq (sSet 9 (ap gAdd [.v (eCall F__law_letter [.b 0] []), .v (eCall F__law_text [.b 0, .v (ap gIx [.v (eLst [(eC (.int 0)), (eC (.int 0)), (eC (.int 2)), (eC (.int 11))]), .v (eCall F__law_draw [.b 0, .v (eC (.int 4))] [])])] [])]))
  (sSeq (sSet 10 (ap gAdd [.v (eLst [(eVar 9)]), .v (eComp [12] (sRng1 (.v (ap gIx [.v (eLst [(eC (.int 0)), (eC (.int 1)), (eC (.int 1)), (eC (.int 2)), (eC (.int 2)), (eC (.int 3)), (eC (.int 4))]), .v (eCall F__law_draw [.b 0, .v (eC (.int 7))] [])]))) (.n 12) cYes C__law_rule_0)]))
  (sSeq (sSet 11 (eComp [12] (sRng1 (.v (ap gLen [.b 2]))) (.n 12) cYes C__law_rule_1))
  (sRet (eTup [(eVar 7), (ap gIx [.b 5, .v (eC (.int 0))]), (eVar 8), (ap gTuple [.b 10]), (ap gTuple [.b 11]), (ap gIx [.b 1, .v (eCall F__law_draw [.b 0, .v (ap gLen [.b 1])] [])])]))))))))))))
def F__law_rule : Fn := mkF 13 [0, 1, 2, 3, 4] G__law_rule
def B__law_service_0 : M Fl :=
  (sDrop (eMut1 gApp 4 (ap gAdd [.v (eTup [(eVar 5)]), .v (ap gTuple [.v (eCall F__law_names [.b 0, .v (eCall F__law_draw [.b 0, .v (eC (.int 4))] []), .v (ap gAdd [.b 2, .v (eLst [(eC (.str (PySem.Str.ofString "self")))])])] [])])])))
def B__law_service_1 : M Fl :=
  (sDrop (eMut1 gApp 6 (eCall F__law_rule [.b 0, .b 1, .b 2, .b 4, .v (ap gEq [.b 7, .v (eC (.int 0))])] [])))
def G__law_service : M Fl :=
  (sSeq (sSet 1 (eCall F__law_names [.b 0, .v (ap gAdd [.v (eC (.int 1)), .v (eCall F__law_draw [.b 0, .v (eC (.int 3))] [])]), .v (eLst [])] []))
  (sSeq (sSet 2 (eCall F__law_names [.b 0, .v (eCall F__law_draw [.b 0, .v (eC (.int 4))] []), .v (eLst [(eC (.str (PySem.Str.ofString "self")))])] []))
  (sSeq (sSet 3 (ap gAdd [.v (eLst [(eC (.str (PySem.Str.ofString "new")))]), .v (eCall F__law_names [.b 0, .v (eCall F__law_draw [.b 0, .v (eC (.int 3))] []), .v (eLst [(eC (.str (PySem.Str.ofString "new")))])] [])]))
  (sSeq (sSet 4 (eLst []))
  (sSeq (sFor (sSeqD (eVar 3)) (.n 5)
    B__law_service_0)
  (sSeq (sSet 6 (eLst []))
  (sSeq (sFor (sRng1 (.v (eCall F__law_draw [.b 0, .v (eC (.int 6))] []))) (.n 7)
    B__law_service_1)
  (sRet (eTup [(eVar 1), (eVar 2), (eVar 4), (eVar 6)])))))))))
def F__law_service : Fn := mkF 8 [0] G__law_service
def C_is_name_0 : M O :=
  (ap gIn [.b 1, .v (eC (.str (PySem.Str.ofString "abcdefghijklmnopqrstuvwxyz")))])
def G_is_name : M Fl :=
  (sSeq (sIf (cOr (cNot (tst (ap (gIsi "str") [.b 0]))) (cNot (tst (eChain gLe gLe (eC (.int 1)) (ap gLen [.b 0]) (eC (.int 12))))))
    (sRet (eC (.bl false)))
    sNext)
  (sRet (ap gAll [.v (eComp [1] (sSeqD (eVar 0)) (.n 1) cYes C_is_name_0)])))
def F_is_name : Fn := mkF 2 [0] G_is_name
def B_check_names_0 : M Fl :=
  (sSeq (sIf (cNot (tst (eCall F_is_name [.b 2] [])))
    (sRaise "BadName" (eVar 2))
    sNext)
  (sIf (tst (ap gIn [.b 2, .v (ap (gSl false true) [.b 0, .b 1])]))
    (sRaise "DuplicateName" (eVar 2))
    sNext))
def G_check_names : M Fl :=
  (sFor (sEnum (.v (eVar 0))) (.t [1, 2])
    B_check_names_0)
def F_check_names : Fn := mkF 3 [0] G_check_names
def C_is_kind_0 : M O :=
  (eCall F_is_name [.b 4] [])
def B_is_kind_0 : M Fl :=
  (sIf (cOr (tst (ap gEq [.v (ap gIx [.b 2, .b 3]), .v (eC (.str (PySem.Str.ofString "self")))])) (cOr (tst (ap gIn [.v (ap gIx [.b 2, .b 3]), .b 1])) (tst (ap gIn [.v (ap gIx [.b 2, .b 3]), .v (ap (gSl false true) [.b 2, .b 3])]))))
    (sRet (eC (.bl false)))
    sNext)
def G_is_kind : M Fl :=
  (sSeq (sIf (cOr (cNot (tst (eChain gLe gLe (eC (.int 1)) (ap gLen [.b 0]) (ap gAdd [.v (eC (.int 3)), .v (eC (.int 1))])))) (cNot (tst (ap gAll [.v (eComp [4] (sSeqD (eVar 0)) (.n 4) cYes C_is_kind_0)]))))
    (sRet (eC (.bl false)))
    sNext)
  (sSeq (sSet 2 (ap (gSl true false) [.b 0, .v (eC (.int 1))]))
  (sSeq (sFor (sRng1 (.v (ap gLen [.b 2]))) (.n 3)
    B_is_kind_0)
  (sRet (eC (.bl true))))))
def F_is_kind : Fn := mkF 5 [0, 1] G_is_kind
def B_check_kinds_0 : M Fl :=
  (sIf (cNot (tst (eCall F_is_kind [.b 2, .b 1] [])))
    (sRaise0 "BadKinds")
    sNext)
def C_check_kinds_0 : M O :=
  (ap gIx [.b 2, .v (eC (.int 0))])
def B_check_kinds_1 : M Fl :=
  (sIf (tst (ap gIn [.v (ap gIx [.b 3, .b 4]), .v (ap (gSl false true) [.b 3, .b 4])]))
    (sRaise0 "BadKinds")
    sNext)
def G_check_kinds : M Fl :=
  (sSeq (sIf (cNot (tst (eChain gLe gLe (eC (.int 1)) (ap gLen [.b 0]) (eC (.int 6)))))
    (sRaise0 "BadKinds")
    sNext)
  (sSeq (sFor (sSeqD (eVar 0)) (.n 2)
    B_check_kinds_0)
  (sSeq (sSet 3 (eComp [2] (sSeqD (eVar 0)) (.n 2) cYes C_check_kinds_0))
  (sSeq (sIf (tst (ap gNe [.v (ap gIx [.b 3, .v (eC (.int 0))]), .v (eC (.str (PySem.Str.ofString "new")))]))
    (sRaise0 "BadKinds")
    sNext)
  (sFor (sRng1 (.v (ap gLen [.b 3]))) (.n 4)
    B_check_kinds_1)))))
def F_check_kinds : Fn := mkF 5 [0, 1] G_check_kinds
def G_check_name : M Fl :=
  (sIf (tst (ap gNotIn [.b 0, .b 1]))
    (sRaise "UnknownName" (eVar 0))
    sNext)
def F_check_name : Fn := mkF 2 [0, 1] G_check_name
def C_is_pattern_0 : M O :=
  (eOr (ap gIn [.b 1, .v (eC (.str (PySem.Str.ofString "abcdefghijklmnopqrstuvwxyz")))]) (ap gIn [.b 1, .v (eC (.str (PySem.Str.ofString "?*")))]))
def G_is_pattern : M Fl :=
  (sSeq (sIf (cOr (cNot (tst (ap (gIsi "str") [.b 0]))) (tst (ap gGt [.v (ap gLen [.b 0]), .v (eC (.int 8))])))
    (sRet (eC (.bl false)))
    sNext)
  (sSeq (sIf (tst (ap gGt [.v (apM isStr gCount (.b 0) [.v (eC (.str (PySem.Str.ofString "*")))]), .v (eC (.int 2))]))
    (sRet (eC (.bl false)))
    sNext)
  (sRet (ap gAll [.v (eComp [1] (sSeqD (eVar 0)) (.n 1) cYes C_is_pattern_0)]))))
def F_is_pattern : Fn := mkF 2 [0] G_is_pattern
def G_check_node : M Fl :=
  (sSeq (sIf (cOr (cNot (tst (ap (gIsi "tuple") [.b 0]))) (cOr (tst (ap gEq [.v (ap gLen [.b 0]), .v (eC (.int 0))])) (cNot (tst (ap (gIsi "str") [.v (ap gIx [.b 0, .v (eC (.int 0))])])))))
    (sRaise "BadCondition" (eVar 0))
    sNext)
  (sSeq (sSet 3 (ap gIx [.b 0, .v (eC (.int 0))]))
  (sSeq (sIf (cAnd (tst (ap gNotIn [.b 3, .v (eTup [(eC (.str (PySem.Str.ofString "and"))), (eC (.str (PySem.Str.ofString "or")))])])) (tst (ap gNe [.v (ap (gTab [(PySem.Str.ofString "always", (1 : Int)), (PySem.Str.ofString "never", (1 : Int)), (PySem.Str.ofString "not", (2 : Int)), (PySem.Str.ofString "matches", (3 : Int)), (PySem.Str.ofString "same", (3 : Int)), (PySem.Str.ofString "empty", (2 : Int))]) [.b 3, .v (eC (.int 0))]), .v (ap gLen [.b 0])])))
    (sRaise "BadCondition" (eVar 0))
    sNext)
  (sIf (tst (ap gEq [.b 3, .v (eC (.str (PySem.Str.ofString "matches")))]))
    (sSeq (sDrop (eCall F_check_name [.v (ap gIx [.b 0, .v (eC (.int 1))]), .b 1] []))
  (sIf (cNot (tst (eCall F_is_pattern [.v (ap gIx [.b 0, .v (eC (.int 2))])] [])))
    (sRaise "BadPattern" (ap gIx [.b 0, .v (eC (.int 2))]))
    sNext))
    (sIf (tst (ap gEq [.b 3, .v (eC (.str (PySem.Str.ofString "same")))]))
    (sSeq (sDrop (eCall F_check_name [.v (ap gIx [.b 0, .v (eC (.int 1))]), .b 1] []))
  (sDrop (eCall F_check_name [.v (ap gIx [.b 0, .v (eC (.int 2))]), .b 1] [])))
    (sIf (tst (ap gEq [.b 3, .v (eC (.str (PySem.Str.ofString "empty")))]))
    (sDrop (eCall F_check_name [.v (ap gIx [.b 0, .v (eC (.int 1))]), .b 2] []))
    sNext))))))
def F_check_node : Fn := mkF 4 [0, 1, 2] G_check_node
def G_parts_of : M Fl :=
  (sSeq (sIf (tst (ap gIn [.v (ap gIx [.b 0, .v (eC (.int 0))]), .v (eTup [(eC (.str (PySem.Str.ofString "and"))), (eC (.str (PySem.Str.ofString "or"))), (eC (.str (PySem.Str.ofString "not")))])]))
    (sRet (ap (gSl true false) [.b 0, .v (eC (.int 1))]))
    sNext)
  (sRet (eTup [])))
def F_parts_of : Fn := mkF 1 [0] G_parts_of
def B_check_parts_0 (S_check_parts : Fn) : M Fl :=
  (sDrop (eCall S_check_parts [.b 4, .b 1, .b 2, .v (ap gSub [.b 3, .v (eC (.int 1))])] []))
def G_check_parts (S_check_parts : Fn) : M Fl :=
  (sSeq (sIf (tst (ap gEq [.b 3, .v (eC (.int 0))]))
    (sRaise "BadCondition" (eVar 0))
    sNext)
  (sSeq (sDrop (eCall F_check_node [.b 0, .b 1, .b 2] []))
  (sFor (sSeqD (eCall F_parts_of [.b 0] [])) (.n 4)
    (B_check_parts_0 S_check_parts))))
def F_check_parts : Nat → Fn
  | 0 => fun _ => none
  | n + 1 => mkF 5 [0, 1, 2, 3] (G_check_parts (F_check_parts n))
def C_size_of_0 (S_size_of : Fn) : M O :=
  (eCall S_size_of [.b 1] [])
def G_size_of (S_size_of : Fn) : M Fl :=
  (sRet (ap gAdd [.v (eC (.int 1)), .v (ap gSum [.v (eComp [1] (sSeqD (eCall F_parts_of [.b 0] [])) (.n 1) cYes (C_size_of_0 S_size_of))])]))
def F_size_of : Nat → Fn
  | 0 => fun _ => none
  | n + 1 => mkF 2 [0] (G_size_of (F_size_of n))
def G_check_condition : M Fl :=
  (sSeq (sDrop (eCall (F_check_parts 40) [.b 0, .b 1, .b 2, .v (eC (.int 6))] []))
  (sIf (tst (ap gGt [.v (eCall (F_size_of 40) [.b 0] []), .v (eC (.int 20))]))
    (sRaise "BadCondition" (eVar 0))
    sNext))
def F_check_condition : Fn := mkF 3 [0, 1, 2] G_check_condition
def C_is_text_0 : M O :=
  (ap gIn [.b 1, .v (eC (.str (PySem.Str.ofString "abcdefghijklmnopqrstuvwxyz")))])
def G_is_text : M Fl :=
  (sRet (eAnd (ap (gIsi "str") [.b 0]) (ap gAll [.v (eComp [1] (sSeqD (eVar 0)) (.n 1) cYes C_is_text_0)])))
def F_is_text : Fn := mkF 2 [0] G_is_text
def G_check_source : M Fl :=
  (sSeq (sIf (cOr (cNot (tst (ap (gIsi "tuple") [.b 0]))) (tst (ap gNe [.v (ap gLen [.b 0]), .v (eC (.int 2))])))
    (sRaise "BadSource" (eVar 0))
    sNext)
  (sSeq (sSetT (.t [2, 3]) (eVar 0))
  (sIf (tst (ap gEq [.b 2, .v (eC (.str (PySem.Str.ofString "value")))]))
    (sDrop (eCall F_check_name [.b 3, .b 1] []))
    (sIf (tst (ap gEq [.b 2, .v (eC (.str (PySem.Str.ofString "text")))]))
    (sIf (cOr (cNot (tst (eCall F_is_text [.b 3] []))) (tst (ap gGt [.v (ap gLen [.b 3]), .v (eC (.int 8))])))
    (sRaise "BadSource" (eVar 0))
    sNext)
    (sIf (cOr (tst (ap gNe [.b 2, .v (eC (.str (PySem.Str.ofString "fresh")))])) (tst (ap gNotIn [.b 3, .v (eTup [(eC (.int 0)), (eC (.int 1)), (eC (.int 2))])])))
    (sRaise "BadSource" (eVar 0))
    sNext)))))
def F_check_source : Fn := mkF 4 [0, 1] G_check_source
def B_check_answer_0 : M Fl :=
  (sDrop (eCall F_check_source [.b 2, .b 1] []))
def G_check_answer : M Fl :=
  (sSeq (sIf (cOr (cNot (tst (ap (gIsi "tuple") [.b 0]))) (cNot (tst (eChain gLe gLe (eC (.int 1)) (ap gLen [.b 0]) (ap gAdd [.v (eC (.int 1)), .v (eC (.int 4))])))))
    (sRaise "BadRule" (eC (.int 3)))
    sNext)
  (sSeq (sIf (cNot (tst (eCall F_is_name [.v (ap gIx [.b 0, .v (eC (.int 0))])] [])))
    (sRaise "BadName" (ap gIx [.b 0, .v (eC (.int 0))]))
    sNext)
  (sFor (sSeqD (ap (gSl true false) [.b 0, .v (eC (.int 1))])) (.n 2)
    B_check_answer_0)))
def F_check_answer : Fn := mkF 3 [0, 1] G_check_answer
def G_check_line : M Fl :=
  (sIf (tst (ap gNotIn [.b 0, .v (eTup [(eTup [(eC (.str (PySem.Str.ofString "keep")))]), (eTup [(eC (.str (PySem.Str.ofString "clear")))])])]))
    (sDrop (eCall F_check_source [.b 0, .b 1] []))
    sNext)
def F_check_line : Fn := mkF 2 [0, 1] G_check_line
def B_value_names_0 : M Fl :=
  (sIf (tst (ap gEq [.v (ap gIx [.b 2, .v (eC (.int 0))]), .b 1]))
    (sRet (ap gListX [.v (ap (gSl true false) [.b 2, .v (eC (.int 1))])]))
    sNext)
def G_value_names : M Fl :=
  (sSeq (sFor (sSeqD (eVar 0)) (.n 2)
    B_value_names_0)
  (sRaise "UnknownRequest" (eVar 1)))
def F_value_names : Fn := mkF 3 [0, 1] G_value_names
def B_check_rule_0 : M Fl :=
  (sDrop (eCall F_check_line [.b 11, .b 10] []))
def G_check_rule : M Fl :=
  (sSeq (sIf (cOr (cNot (tst (ap (gIsi "tuple") [.b 0]))) (tst (ap gNe [.v (ap gLen [.b 0]), .v (eC (.int 6))])))
    (sRaise "BadRule" (eC .non))
    sNext)
  (sSeq (sSetT (.t [4, 5, 6, 7, 8, 9]) (eVar 0))
  (sSeq (sIf (cAnd (tst (ap gNotN [.b 4, .v (eC .non)])) (tst (ap gNotIn [.b 4, .b 1])))
    (sRaise "UnknownStation" (eVar 4))
    sNext)
  (sSeq (sSet 10 (ap gAdd [.v (ap gAdd [.b 2, .v (eCall F_value_names [.b 3, .b 5] [])]), .v (eLst [(eC (.str (PySem.Str.ofString "self")))])]))
  (sSeq (sIf (cAnd (tst (ap gEq [.b 5, .v (eC (.str (PySem.Str.ofString "new")))])) (tst (ap gNotN [.b 4, .v (eC .non)])))
    (sRaise "BadRule" (eC (.int 0)))
    sNext)
  (sSeq (sDrop (eCall F_check_condition [.b 6, .b 10, .b 2] []))
  (sSeq (sDrop (eCall F_check_answer [.b 7, .b 10] []))
  (sSeq (sIf (cOr (cNot (tst (ap (gIsi "tuple") [.b 8]))) (tst (ap gNe [.v (ap gLen [.b 8]), .v (ap gLen [.b 2])])))
    (sRaise "BadRule" (eC (.int 4)))
    sNext)
  (sSeq (sFor (sSeqD (eVar 8)) (.n 11)
    B_check_rule_0)
  (sIf (tst (ap gNotIn [.b 9, .b 1]))
    (sRaise "UnknownStation" (eVar 9))
    sNext))))))))))
def F_check_rule : Fn := mkF 12 [0, 1, 2, 3] G_check_rule
def B_Service_m_init_0 : M Fl :=
  (sDrop (eCall F_check_rule [.b 5, .v (ap gListX [.b 1]), .v (ap gListX [.b 2]), .v (ap gListX [.b 3])] []))
def G_Service_m_init : M Fl :=
  (sSeq (sIf (cNot (tst (eChain gLe gLe (eC (.int 1)) (ap gLen [.b 1]) (eC (.int 6)))))
    (sRaise "BadCount" (eC (.str (PySem.Str.ofString "stations"))))
    sNext)
  (sSeq (sDrop (eCall F_check_names [.v (ap gListX [.b 1])] []))
  (sSeq (sIf (tst (ap gGt [.v (ap gLen [.b 2]), .v (eC (.int 3))]))
    (sRaise "BadCount" (eC (.str (PySem.Str.ofString "registers"))))
    sNext)
  (sSeq (sDrop (eCall F_check_names [.v (ap gListX [.b 2])] []))
  (sSeq (sIf (tst (ap gIn [.v (eC (.str (PySem.Str.ofString "self"))), .b 2]))
    (sRaise "BadName" (eC (.str (PySem.Str.ofString "self"))))
    sNext)
  (sSeq (sDrop (eCall F_check_kinds [.v (ap gListX [.b 3]), .v (ap gListX [.b 2])] []))
  (sSeq (sIf (tst (ap gGt [.v (ap gLen [.b 4]), .v (eC (.int 40))]))
    (sRaise "BadCount" (eC (.str (PySem.Str.ofString "rules"))))
    sNext)
  (sSeq (sFor (sSeqD (eVar 4)) (.n 5)
    B_Service_m_init_0)
  (sSeq (sSetF "Service" "_stations" 0 (ap gListX [.b 1]))
  (sSeq (sSetF "Service" "_registers" 0 (ap gListX [.b 2]))
  (sSeq (sSetF "Service" "_requests" 0 (ap gListX [.b 3]))
  (sSetF "Service" "_rules" 0 (ap gListX [.b 4])))))))))))))
def F_Service_m_init : Fn := mkF 6 [0, 1, 2, 3, 4] G_Service_m_init
def C__law_text_of_0 : M O :=
  (apM isStr gJoin (.v (eC (.str (PySem.Str.ofString " ")))) [.b 1])
def G__law_text_of : M Fl :=
  (sRet (apM isStr gJoin (.v (eC (.str (PySem.Str.ofString "\n")))) [.v (eComp [1] (sSeqD (eVar 0)) (.n 1) cYes C__law_text_of_0)]))
def F__law_text_of : Fn := mkF 2 [0] G__law_text_of
def B__law_words_of_condition_0 (S__law_words_of_condition : Fn) : M Fl :=
  (sSet 1 (ap gAdd [.b 1, .v (eCall S__law_words_of_condition [.b 2] [])]))
def G__law_words_of_condition (S__law_words_of_condition : Fn) : M Fl :=
  (sSeq (sIf (tst (ap gEq [.v (ap gIx [.b 0, .v (eC (.int 0))]), .v (eC (.str (PySem.Str.ofString "matches")))]))
    (sRet (eLst [(eC (.str (PySem.Str.ofString "matches"))), (ap gIx [.b 0, .v (eC (.int 1))]), (ap gAdd [.v (eC (.str (PySem.Str.ofString "="))), .v (ap gIx [.b 0, .v (eC (.int 2))])])]))
    sNext)
  (sSeq (sIf (cOr (tst (ap gEq [.v (ap gIx [.b 0, .v (eC (.int 0))]), .v (eC (.str (PySem.Str.ofString "and")))])) (tst (ap gEq [.v (ap gIx [.b 0, .v (eC (.int 0))]), .v (eC (.str (PySem.Str.ofString "or")))])))
    (sSeq (sSet 1 (eLst [(ap gIx [.b 0, .v (eC (.int 0))]), (ap gStr1 [.v (ap gSub [.v (ap gLen [.b 0]), .v (eC (.int 1))])])]))
  (sSeq (sFor (sSeqD (ap (gSl true false) [.b 0, .v (eC (.int 1))])) (.n 2)
    (B__law_words_of_condition_0 S__law_words_of_condition))
  (sRet (eMove 1))))
    sNext)
  (sSeq (sIf (tst (ap gEq [.v (ap gIx [.b 0, .v (eC (.int 0))]), .v (eC (.str (PySem.Str.ofString "not")))]))
    (sRet (ap gAdd [.v (eLst [(eC (.str (PySem.Str.ofString "not")))]), .v (eCall S__law_words_of_condition [.v (ap gIx [.b 0, .v (eC (.int 1))])] [])]))
    sNext)
  (sRet (ap gListX [.b 0])))))
def F__law_words_of_condition : Nat → Fn
  | 0 => fun _ => none
  | n + 1 => mkF 3 [0] (G__law_words_of_condition (F__law_words_of_condition n))
def G__law_words_of_line : M Fl :=
  (sSeq (sIf (tst (ap gEq [.v (ap gIx [.b 0, .v (eC (.int 0))]), .v (eC (.str (PySem.Str.ofString "text")))]))
    (sRet (eLst [(eC (.str (PySem.Str.ofString "text"))), (ap gAdd [.v (eC (.str (PySem.Str.ofString "="))), .v (ap gIx [.b 0, .v (eC (.int 1))])])]))
    sNext)
  (sSeq (sIf (tst (ap gEq [.v (ap gIx [.b 0, .v (eC (.int 0))]), .v (eC (.str (PySem.Str.ofString "fresh")))]))
    (sRet (eLst [(eC (.str (PySem.Str.ofString "fresh"))), (ap gIx [.v (eC (.str (PySem.Str.ofString "012"))), .v (ap gIx [.b 0, .v (eC (.int 1))])])]))
    sNext)
  (sRet (ap gListX [.b 0]))))
def F__law_words_of_line : Fn := mkF 1 [0] G__law_words_of_line
def B__law_line_of_rule_0 : M Fl :=
  (sSet 1 (ap gAdd [.b 1, .v (eCall F__law_words_of_line [.b 2] [])]))
def B__law_line_of_rule_1 : M Fl :=
  (sSet 1 (ap gAdd [.b 1, .v (eCall F__law_words_of_line [.b 3] [])]))
def G__law_line_of_rule : M Fl :=
  (sSeq (sSet 1 (eLst [(eC (.str (PySem.Str.ofString "rule"))), (eC (.str (PySem.Str.ofString "-"))), (ap gIx [.b 0, .v (eC (.int 1))])]))
  (sSeq (sIf (tst (ap gNotN [.v (ap gIx [.b 0, .v (eC (.int 0))]), .v (eC .non)]))
    (sSetIx 1 (eC (.int 1)) (ap gIx [.b 0, .v (eC (.int 0))]))
    sNext)
  (sSeq (sSet 1 (ap gAdd [.v (ap gAdd [.b 1, .v (eCall (F__law_words_of_condition 40) [.v (ap gIx [.b 0, .v (eC (.int 2))])] [])]), .v (eLst [(eC (.str (PySem.Str.ofString "answer"))), (ap gIx [.v (ap gIx [.b 0, .v (eC (.int 3))]), .v (eC (.int 0))]), (ap gStr1 [.v (ap gSub [.v (ap gLen [.v (ap gIx [.b 0, .v (eC (.int 3))])]), .v (eC (.int 1))])])])]))
  (sSeq (sFor (sSeqD (ap (gSl true false) [.v (ap gIx [.b 0, .v (eC (.int 3))]), .v (eC (.int 1))])) (.n 2)
    B__law_line_of_rule_0)
  (sSeq (sDrop (eMut1 gApp 1 (eC (.str (PySem.Str.ofString "turn")))))
  (sSeq (sFor (sSeqD (ap gIx [.b 0, .v (eC (.int 4))])) (.n 3)
    B__law_line_of_rule_1)
  (sRet (ap gAdd [.b 1, .v (eLst [(eC (.str (PySem.Str.ofString "next"))), (ap gIx [.b 0, .v (eC (.int 5))])])]))))))))
def F__law_line_of_rule : Fn := mkF 4 [0] G__law_line_of_rule
def C__law_lines_0 : M O :=
  (ap gAdd [.v (eLst [(eC (.str (PySem.Str.ofString "request")))]), .v (ap gListX [.b 2])])
def C__law_lines_1 : M O :=
  (eCall F__law_line_of_rule [.b 3] [])
def G__law_lines : M Fl :=
  (sSeq (sSet 1 (eLst [(ap gAdd [.v (eLst [(eC (.str (PySem.Str.ofString "stations")))]), .v (ap gIx [.b 0, .v (eC (.int 0))])]), (ap gAdd [.v (eLst [(eC (.str (PySem.Str.ofString "registers")))]), .v (ap gIx [.b 0, .v (eC (.int 1))])])]))
  (sSeq (sSet 1 (ap gAdd [.b 1, .v (eComp [2] (sSeqD (ap gIx [.b 0, .v (eC (.int 2))])) (.n 2) cYes C__law_lines_0)]))
  (sRet (ap gAdd [.b 1, .v (eComp [3] (sSeqD (ap gIx [.b 0, .v (eC (.int 3))])) (.n 3) cYes C__law_lines_1)]))))
def F__law_lines : Fn := mkF 4 [0] G__law_lines
def B_format_condition_0 (S_format_condition : Fn) : M Fl :=
  (sDrop (eMut1 gExt 2 (eCall S_format_condition [.b 3] [])))
def G_format_condition (S_format_condition : Fn) : M Fl :=
  (sSeq (sSet 1 (ap gIx [.b 0, .v (eC (.int 0))]))
  (sSeq (sIf (tst (ap gEq [.b 1, .v (eC (.str (PySem.Str.ofString "matches")))]))
    (sRet (eLst [(eVar 1), (ap gIx [.b 0, .v (eC (.int 1))]), (ap gAdd [.v (eC (.str (PySem.Str.ofString "="))), .v (ap gIx [.b 0, .v (eC (.int 2))])])]))
    sNext)
  (sSeq (sIf (tst (ap gIn [.b 1, .v (eTup [(eC (.str (PySem.Str.ofString "same"))), (eC (.str (PySem.Str.ofString "empty")))])]))
    (sRet (ap gListX [.b 0]))
    sNext)
  (sSeq (sSet 2 (eLst [(eVar 1)]))
  (sSeq (sIf (tst (ap gIn [.b 1, .v (eTup [(eC (.str (PySem.Str.ofString "and"))), (eC (.str (PySem.Str.ofString "or")))])]))
    (sDrop (eMut1 gApp 2 (ap gStr1 [.v (ap gSub [.v (ap gLen [.b 0]), .v (eC (.int 1))])])))
    sNext)
  (sSeq (sFor (sSeqD (ap (gSl true false) [.b 0, .v (eC (.int 1))])) (.n 3)
    (B_format_condition_0 S_format_condition))
  (sRet (eMove 2))))))))
def F_format_condition : Nat → Fn
  | 0 => fun _ => none
  | n + 1 => mkF 4 [0] (G_format_condition (F_format_condition n))
def C_format_line_0 : M O :=
  (ap gStr2 [.b 1])
def G_format_line : M Fl :=
  (sSeq (sIf (tst (ap gEq [.v (ap gIx [.b 0, .v (eC (.int 0))]), .v (eC (.str (PySem.Str.ofString "text")))]))
    (sRet (eLst [(eC (.str (PySem.Str.ofString "text"))), (ap gAdd [.v (eC (.str (PySem.Str.ofString "="))), .v (ap gIx [.b 0, .v (eC (.int 1))])])]))
    sNext)
  (sRet (eComp [1] (sSeqD (eVar 0)) (.n 1) cYes C_format_line_0)))
def F_format_line : Fn := mkF 2 [0] G_format_line
def B_format_rule_0 : M Fl :=
  (sDrop (eMut1 gExt 2 (eCall F_format_line [.b 3] [])))
def B_format_rule_1 : M Fl :=
  (sDrop (eMut1 gExt 2 (eCall F_format_line [.b 4] [])))
def G_format_rule : M Fl :=
  (sSeq (sSet 1 (ap gIx [.b 0, .v (eC (.int 0))]))
  (sSeq (sIf (tst (ap gIsN [.b 1, .v (eC .non)]))
    (sSet 1 (eC (.str (PySem.Str.ofString "-"))))
    sNext)
  (sSeq (sSet 2 (ap gAdd [.v (eLst [(eC (.str (PySem.Str.ofString "rule"))), (eVar 1), (ap gIx [.b 0, .v (eC (.int 1))])]), .v (eCall (F_format_condition 40) [.v (ap gIx [.b 0, .v (eC (.int 2))])] [])]))
  (sSeq (sDrop (eMut1 gExt 2 (eLst [(eC (.str (PySem.Str.ofString "answer"))), (ap gIx [.v (ap gIx [.b 0, .v (eC (.int 3))]), .v (eC (.int 0))]), (ap gStr1 [.v (ap gSub [.v (ap gLen [.v (ap gIx [.b 0, .v (eC (.int 3))])]), .v (eC (.int 1))])])])))
  (sSeq (sFor (sSeqD (ap (gSl true false) [.v (ap gIx [.b 0, .v (eC (.int 3))]), .v (eC (.int 1))])) (.n 3)
    B_format_rule_0)
  (sSeq (sDrop (eMut1 gApp 2 (eC (.str (PySem.Str.ofString "turn")))))
  (sSeq (sFor (sSeqD (ap gIx [.b 0, .v (eC (.int 4))])) (.n 4)
    B_format_rule_1)
  (sRet (apM isStr gJoin (.v (eC (.str (PySem.Str.ofString " ")))) [.v (ap gAdd [.b 2, .v (eLst [(eC (.str (PySem.Str.ofString "next"))), (ap gIx [.b 0, .v (eC (.int 5))])])])])))))))))
def F_format_rule : Fn := mkF 5 [0] G_format_rule
def G_Service_p_stations : M Fl :=
  (sRet (ap gListX [.v (ap (gFld "Service" "_stations") [.b 0])]))
def F_Service_p_stations : Fn := mkF 1 [0] G_Service_p_stations
def G_Service_p_registers : M Fl :=
  (sRet (ap gListX [.v (ap (gFld "Service" "_registers") [.b 0])]))
def F_Service_p_registers : Fn := mkF 1 [0] G_Service_p_registers
def G_Service_p_requests : M Fl :=
  (sRet (ap gListX [.v (ap (gFld "Service" "_requests") [.b 0])]))
def F_Service_p_requests : Fn := mkF 1 [0] G_Service_p_requests
def G_Service_p_rules : M Fl :=
  (sRet (ap gListX [.v (ap (gFld "Service" "_rules") [.b 0])]))
def F_Service_p_rules : Fn := mkF 1 [0] G_Service_p_rules
def C_format_service_0 : M O :=
  (apM isStr gJoinT (.v (eC (.str (PySem.Str.ofString " ")))) [.v (ap gAdd [.v (eTup [(eC (.str (PySem.Str.ofString "request")))]), .b 2])])
def C_format_service_1 : M O :=
  (eCall F_format_rule [.b 3] [])
def G_format_service : M Fl :=
  (sSeq (sSet 1 (eLst [(apM isStr gJoin (.v (eC (.str (PySem.Str.ofString " ")))) [.v (ap gAdd [.v (eLst [(eC (.str (PySem.Str.ofString "stations")))]), .v (ePrp "Service" F_Service_p_stations (eVar 0))])]), (apM isStr gJoin (.v (eC (.str (PySem.Str.ofString " ")))) [.v (ap gAdd [.v (eLst [(eC (.str (PySem.Str.ofString "registers")))]), .v (ePrp "Service" F_Service_p_registers (eVar 0))])])]))
  (sSeq (sDrop (eMut1 gExt 1 (eComp [2] (sSeqD (ePrp "Service" F_Service_p_requests (eVar 0))) (.n 2) cYes C_format_service_0)))
  (sSeq (sDrop (eMut1 gExt 1 (eComp [3] (sSeqD (ePrp "Service" F_Service_p_rules (eVar 0))) (.n 3) cYes C_format_service_1)))
  (sRet (apM isStr gJoin (.v (eC (.str (PySem.Str.ofString "\n")))) [.b 1])))))
def F_format_service : Fn := mkF 4 [0] G_format_service
def B_law_0 : M Fl :=
  (sSeq (sSet 6 (eCall F_format_service [.b 3] []))
  (sIf (cOr (cNot (tst (ap (gIsi "str") [.b 6]))) (tst (ap gNe [.b 6, .b 4])))
    (sRet (eC (.bl false)))
    sNext))
def G_law : M Fl :=
  (sSeq (sSet 1 (eCall F__law_deck [.b 0] []))
  (sSeq (sSet 2 (eCall F__law_service [.b 1] []))
  (sSeq (sSet 3 (eCall (mkIns "Service" F_Service_m_init) [.v (ap gIx [.b 2, .v (eC (.int 0))]), .v (ap gIx [.b 2, .v (eC (.int 1))]), .v (ap gIx [.b 2, .v (eC (.int 2))]), .v (ap gIx [.b 2, .v (eC (.int 3))])] []))
  (sSeq (sSet 4 (eCall F__law_text_of [.v (eCall F__law_lines [.b 2] [])] []))
  (sSeq (sFor (sRng1 (.v (eC (.int 2)))) (.n 5)
    B_law_0)
  (sRet (eAnd (ap gEq [.v (ePrp "Service" F_Service_p_rules (eVar 3)), .v (ap gIx [.b 2, .v (eC (.int 3))])]) (ap gEq [.v (ePrp "Service" F_Service_p_stations (eVar 3)), .v (ap gIx [.b 2, .v (eC (.int 0))])]))))))))
def F_law : Fn := mkF 7 [0] G_law
end
/-! ### each def computes it -/
section
variable {P : Program} {w : World} {K : PySem.W.Frag} {mg : Str → Option Value} {base : Heap}
theorem ok_init_TalkError {f : Addr} {fd : FuncData} (F : FunX K "__init__" "TalkError.__init__" m_TalkError f fd) : FnOk P w K mg base (L2.CX P w) 1 f fd ["self", "word", "place"] (spT K) :=
  ok_initT (k := 0) F scm_TalkError fun cdv A outer s H E => by exact (pss_cons (ps_ost (pv 0) (pv 1)) (pss_one (ps_ost (pv 0) (pv 2))))
theorem ok_init_BadPattern {f : Addr} {fd : FuncData} (F : FunX K "__init__" "BadPattern.__init__" m_BadPattern f fd) (E0 : Er0 P w K mg base 1 "TalkError") : FnOk P w K mg base (L2.CX P w) 2 f fd ["self", "place"] (spB K "BadPattern") :=
  ok_initC (k := 1) F scm_BadPattern E0 fun C f0 fd0 h1 h2 h3 h4 h5 h6 cdv A outer s H E hr tk => by exact (pss_one (ps_expr (pe_cfun h5 hr rfl h1 h2 h3 h4 h6 (passes_call tk fun _ _ _ _ z => z.elim) (pa_cons (pv 0) (pa_cons pe_str (pa_cons (pv 1) pa_nil))))))
theorem ok_init_BadKinds {f : Addr} {fd : FuncData} (F : FunX K "__init__" "BadKinds.__init__" m_BadKinds f fd) (E0 : Er0 P w K mg base 1 "TalkError") : FnOk P w K mg base (L2.CX P w) 2 f fd ["self", "place"] (spB K "BadKinds") :=
  ok_initC (k := 1) F scm_BadKinds E0 fun C f0 fd0 h1 h2 h3 h4 h5 h6 cdv A outer s H E hr tk => by exact (pss_one (ps_expr (pe_cfun h5 hr rfl h1 h2 h3 h4 h6 (passes_call tk fun _ _ _ _ z => z.elim) (pa_cons (pv 0) (pa_cons pe_str (pa_cons (pv 1) pa_nil))))))
theorem ok_init_BadCondition {f : Addr} {fd : FuncData} (F : FunX K "__init__" "BadCondition.__init__" m_BadCondition f fd) (E0 : Er0 P w K mg base 1 "TalkError") : FnOk P w K mg base (L2.CX P w) 2 f fd ["self", "place"] (spB K "BadCondition") :=
  ok_initC (k := 1) F scm_BadCondition E0 fun C f0 fd0 h1 h2 h3 h4 h5 h6 cdv A outer s H E hr tk => by exact (pss_one (ps_expr (pe_cfun h5 hr rfl h1 h2 h3 h4 h6 (passes_call tk fun _ _ _ _ z => z.elim) (pa_cons (pv 0) (pa_cons pe_str (pa_cons (pv 1) pa_nil))))))
theorem ok_init_UnknownName {f : Addr} {fd : FuncData} (F : FunX K "__init__" "UnknownName.__init__" m_UnknownName f fd) (E0 : Er0 P w K mg base 1 "TalkError") : FnOk P w K mg base (L2.CX P w) 2 f fd ["self", "place"] (spB K "UnknownName") :=
  ok_initC (k := 1) F scm_UnknownName E0 fun C f0 fd0 h1 h2 h3 h4 h5 h6 cdv A outer s H E hr tk => by exact (pss_one (ps_expr (pe_cfun h5 hr rfl h1 h2 h3 h4 h6 (passes_call tk fun _ _ _ _ z => z.elim) (pa_cons (pv 0) (pa_cons pe_str (pa_cons (pv 1) pa_nil))))))
theorem ok_init_UnknownStation {f : Addr} {fd : FuncData} (F : FunX K "__init__" "UnknownStation.__init__" m_UnknownStation f fd) (E0 : Er0 P w K mg base 1 "TalkError") : FnOk P w K mg base (L2.CX P w) 2 f fd ["self", "place"] (spB K "UnknownStation") :=
  ok_initC (k := 1) F scm_UnknownStation E0 fun C f0 fd0 h1 h2 h3 h4 h5 h6 cdv A outer s H E hr tk => by exact (pss_one (ps_expr (pe_cfun h5 hr rfl h1 h2 h3 h4 h6 (passes_call tk fun _ _ _ _ z => z.elim) (pa_cons (pv 0) (pa_cons pe_str (pa_cons (pv 1) pa_nil))))))
theorem ok_init_UnknownRequest {f : Addr} {fd : FuncData} (F : FunX K "__init__" "UnknownRequest.__init__" m_UnknownRequest f fd) (E0 : Er0 P w K mg base 1 "TalkError") : FnOk P w K mg base (L2.CX P w) 2 f fd ["self", "place"] (spB K "UnknownRequest") :=
  ok_initC (k := 1) F scm_UnknownRequest E0 fun C f0 fd0 h1 h2 h3 h4 h5 h6 cdv A outer s H E hr tk => by exact (pss_one (ps_expr (pe_cfun h5 hr rfl h1 h2 h3 h4 h6 (passes_call tk fun _ _ _ _ z => z.elim) (pa_cons (pv 0) (pa_cons pe_str (pa_cons (pv 1) pa_nil))))))
theorem ok_init_BadRule {f : Addr} {fd : FuncData} (F : FunX K "__init__" "BadRule.__init__" m_BadRule f fd) (E0 : Er0 P w K mg base 1 "TalkError") : FnOk P w K mg base (L2.CX P w) 2 f fd ["self", "place"] (spB K "BadRule") :=
  ok_initC (k := 1) F scm_BadRule E0 fun C f0 fd0 h1 h2 h3 h4 h5 h6 cdv A outer s H E hr tk => by exact (pss_one (ps_expr (pe_cfun h5 hr rfl h1 h2 h3 h4 h6 (passes_call tk fun _ _ _ _ z => z.elim) (pa_cons (pv 0) (pa_cons pe_str (pa_cons (pv 1) pa_nil))))))
theorem ok_init_BadSource {f : Addr} {fd : FuncData} (F : FunX K "__init__" "BadSource.__init__" m_BadSource f fd) (E0 : Er0 P w K mg base 1 "TalkError") : FnOk P w K mg base (L2.CX P w) 2 f fd ["self", "place"] (spB K "BadSource") :=
  ok_initC (k := 1) F scm_BadSource E0 fun C f0 fd0 h1 h2 h3 h4 h5 h6 cdv A outer s H E hr tk => by exact (pss_one (ps_expr (pe_cfun h5 hr rfl h1 h2 h3 h4 h6 (passes_call tk fun _ _ _ _ z => z.elim) (pa_cons (pv 0) (pa_cons pe_str (pa_cons (pv 1) pa_nil))))))
theorem ok_init_BadCount {f : Addr} {fd : FuncData} (F : FunX K "__init__" "BadCount.__init__" m_BadCount f fd) (E0 : Er0 P w K mg base 1 "TalkError") : FnOk P w K mg base (L2.CX P w) 2 f fd ["self", "place"] (spB K "BadCount") :=
  ok_initC (k := 1) F scm_BadCount E0 fun C f0 fd0 h1 h2 h3 h4 h5 h6 cdv A outer s H E hr tk => by exact (pss_one (ps_expr (pe_cfun h5 hr rfl h1 h2 h3 h4 h6 (passes_call tk fun _ _ _ _ z => z.elim) (pa_cons (pv 0) (pa_cons pe_str (pa_cons (pv 1) pa_nil))))))
theorem ok_init_BadName {f : Addr} {fd : FuncData} (F : FunX K "__init__" "BadName.__init__" m_BadName f fd) (E0 : Er0 P w K mg base 1 "TalkError") : FnOk P w K mg base (L2.CX P w) 2 f fd ["self", "place"] (spB K "BadName") :=
  ok_initC (k := 1) F scm_BadName E0 fun C f0 fd0 h1 h2 h3 h4 h5 h6 cdv A outer s H E hr tk => by exact (pss_one (ps_expr (pe_cfun h5 hr rfl h1 h2 h3 h4 h6 (passes_call tk fun _ _ _ _ z => z.elim) (pa_cons (pv 0) (pa_cons pe_str (pa_cons (pv 1) pa_nil))))))
theorem ok_init_DuplicateName {f : Addr} {fd : FuncData} (F : FunX K "__init__" "DuplicateName.__init__" m_DuplicateName f fd) (E0 : Er0 P w K mg base 1 "TalkError") : FnOk P w K mg base (L2.CX P w) 2 f fd ["self", "place"] (spB K "DuplicateName") :=
  ok_initC (k := 1) F scm_DuplicateName E0 fun C f0 fd0 h1 h2 h3 h4 h5 h6 cdv A outer s H E hr tk => by exact (pss_one (ps_expr (pe_cfun h5 hr rfl h1 h2 h3 h4 h6 (passes_call tk fun _ _ _ _ z => z.elim) (pa_cons (pv 0) (pa_cons pe_str (pa_cons (pv 1) pa_nil))))))
set_option maxHeartbeats 4000000 in
theorem ok__law_deck {f : Addr} {fd : FuncData} (F : Fun K "_law_deck" "_law_deck" s__law_deck f fd) (m_int : mg "int" = none) (m_list : mg "list" = none) : FnOk P w K mg base (L2.CX P w) 1 f fd [(PySem.Str.ofString "_law_script")] (spD K mg 1 F__law_deck) :=
  fn_dn (k := 0) (ks := [0]) (g := G__law_deck) (N := sc__law_deckN) (ps := [(PySem.Str.ofString "_law_script")]) F sc__law_deck 1 3 rfl rfl (fun cdv A outer s H E hr tk hp => by
    have hu := hr.units
    have hu5 := hr.units5
    exact (ss_cons (s_set (i := 1) sc__law_deck.nd rfl (Or.inl rfl) d_int)
  (ss_cons (s_for hp rfl (i_seq (d_var (pv 0))) (pg_name (i := 2) sc__law_deck.nd rfl (Or.inl rfl))
    (ss_one (s_set (i := 1) sc__law_deck.nd rfl (Or.inl rfl) (d_op op_modN n_mod (p_v (d_ct call_int12 n_int rfl m_int bt_int (pa_c (p_v (d_op o_add n_add (p_v (d_op op_mul n_mul (p_b (pv 1)) (p_v d_int))) (p_b (pv 2)))) pa_n))) (p_v d_int)))) (by decide))
  (ss_one (s_ret (d_lst (is_c d_int (is_c d_int (is_c (d_var (pv 1)) (is_c (d_ct (cr_listX rfl) n_listX rfl m_list bt_list (pa_c (p_b (pv 0)) pa_n)) (is_c d_int is_n)))))))))))
set_option maxHeartbeats 4000000 in
theorem ok__law_draw {f : Addr} {fd : FuncData} (F : Fun K "_law_draw" "_law_draw" s__law_draw f fd) (m_abs : mg "abs" = none) (m_int : mg "int" = none) (m_len : mg "len" = none) : FnOk P w K mg base (L2.CX P w) 1 f fd [(PySem.Str.ofString "_law_deck_here"), (PySem.Str.ofString "_law_bound")] (spD K mg 2 F__law_draw) :=
  fn_dn (k := 0) (ks := [0, 1]) (g := G__law_draw) (N := sc__law_drawN) (ps := [(PySem.Str.ofString "_law_deck_here"), (PySem.Str.ofString "_law_bound")]) F sc__law_draw 2 3 rfl rfl (fun cdv A outer s H E hr tk hp => by
    have hu := hr.units
    have hu5 := hr.units5
    exact (ss_cons (s_if (c_w (w_and (c_cmp (o_eq hu) n_eq (p_v (d_ix (ix_any hu) n_ix (p_b (pv 0)) (p_v d_int) (fun _ _ => rfl))) (p_v d_int) (nomark _)) (w_one (c_cmp (o_ltX hu) n_ltX (p_v (d_ix (ix_any hu) n_ix (p_b (pv 0)) (p_v d_int) (fun _ _ => rfl))) (p_v (d_cb call_len n_len rfl m_len bt_len (pa_c (p_v (d_ix (ix_any hu) n_ix (p_b (pv 0)) (p_v d_int) (fun _ _ => rfl))) pa_n))) (nomark _)))))
    (ss_cons (s_setIx (pv 0) d_int (d_cb call_abs n_abs rfl m_abs bt_abs (pa_c (p_v (d_ix (ix_any hu) n_ix (p_v (d_ix (ix_any hu) n_ix (p_b (pv 0)) (p_v d_int) (fun _ _ => rfl))) (p_v (d_ix (ix_any hu) n_ix (p_b (pv 0)) (p_v d_int) (fun _ _ => rfl))) (fun _ _ => rfl))) pa_n)))
  (ss_one (s_setIx (pv 0) d_int (d_op o_add n_add (p_v (d_ix (ix_any hu) n_ix (p_b (pv 0)) (p_v d_int) (fun _ _ => rfl))) (p_v d_int)))))
    (ss_one (s_if (c_cmp (o_eq hu) n_eq (p_v (d_ix (ix_any hu) n_ix (p_b (pv 0)) (p_v d_int) (fun _ _ => rfl))) (p_v d_int) (nomark _))
    (ss_cons (s_setIx (pv 0) d_int (d_op op_modN n_mod (p_v (d_ct call_int12 n_int rfl m_int bt_int (pa_c (p_v (d_op o_add n_add (p_v (d_op op_mul n_mul (p_v (d_ix (ix_any hu) n_ix (p_b (pv 0)) (p_v d_int) (fun _ _ => rfl))) (p_v d_int))) (p_v d_int))) pa_n))) (p_v d_int)))
  (ss_one (s_setIx (pv 0) d_int (d_op op_fdivN n_div (p_v (d_ix (ix_any hu) n_ix (p_b (pv 0)) (p_v d_int) (fun _ _ => rfl))) (p_v d_int)))))
    ss_nil)))
  (ss_cons (s_set (i := 2) sc__law_draw.nd rfl (Or.inl rfl) (d_op op_modN n_mod (p_v (d_ct call_int12 n_int rfl m_int bt_int (pa_c (p_v (d_ix (ix_any hu) n_ix (p_b (pv 0)) (p_v d_int) (fun _ _ => rfl))) pa_n))) (p_b (pv 1))))
  (ss_cons (s_setIx (pv 0) d_int (d_op op_fdivN n_div (p_v (d_ix (ix_any hu) n_ix (p_b (pv 0)) (p_v d_int) (fun _ _ => rfl))) (p_b (pv 1))))
  (ss_one (s_ret (d_move (pv 2))))))))
set_option maxHeartbeats 4000000 in
theorem ok__law_letter {f : Addr} {fd : FuncData} (F : Fun K "_law_letter" "_law_letter" s__law_letter f fd) (c__law_draw : Cl P w K mg base 1 "_law_draw" 2 F__law_draw []) : FnOk P w K mg base (L2.CX P w) 2 f fd [(PySem.Str.ofString "_law_deck_here")] (spD K mg 1 F__law_letter) :=
  fn_dn (k := 1) (ks := [0]) (g := G__law_letter) (N := sc__law_letterN) (ps := [(PySem.Str.ofString "_law_deck_here")]) F sc__law_letter 1 1 rfl rfl (fun cdv A outer s H E hr tk hp => by
    have hu := hr.units
    have hu5 := hr.units5
    exact (ss_cons (s_if (c_cmp (o_eq hu) n_eq (p_v (d_call c__law_draw hr tk (pa_c (p_b (pv 0)) (pa_c (p_v d_int) pa_n)))) (p_v d_int) (nomark _))
    (ss_one (s_ret (d_ix (ix_any hu) n_ix (p_v d_str) (p_v (d_call c__law_draw hr tk (pa_c (p_b (pv 0)) (pa_c (p_v d_int) pa_n)))) (fun _ _ => rfl))))
    ss_nil)
  (ss_one (s_ret (d_ix (ix_any hu) n_ix (p_v d_str) (p_v (d_call c__law_draw hr tk (pa_c (p_b (pv 0)) (pa_c (p_v d_int) pa_n)))) (fun _ _ => rfl))))))
set_option maxHeartbeats 4000000 in
theorem ok__law_text {f : Addr} {fd : FuncData} (F : Fun K "_law_text" "_law_text" s__law_text f fd) (c__law_draw : Cl P w K mg base 1 "_law_draw" 2 F__law_draw []) (c__law_letter : Cl P w K mg base 2 "_law_letter" 1 F__law_letter []) (m_range : mg "range" = none) : FnOk P w K mg base (L2.CX P w) 3 f fd [(PySem.Str.ofString "_law_deck_here"), (PySem.Str.ofString "_law_most")] (spD K mg 2 F__law_text) :=
  fn_dn (k := 2) (ks := [0, 1]) (g := G__law_text) (N := sc__law_textN) (ps := [(PySem.Str.ofString "_law_deck_here"), (PySem.Str.ofString "_law_most")]) F sc__law_text 2 4 rfl rfl (fun cdv A outer s H E hr tk hp => by
    have hu := hr.units
    have hu5 := hr.units5
    exact (ss_cons (s_set (i := 2) sc__law_text.nd rfl (Or.inl rfl) (d_call c__law_draw hr tk (pa_c (p_b (pv 0)) (pa_c (p_v (d_op o_add n_add (p_b (pv 1)) (p_v d_int))) pa_n))))
  (ss_one (s_ret (d_m1 PySem.F.slot_str_join PySem.F.type_str_join mt_join n_join (p_v d_str) (p_v (d_comp (own := [(PySem.Str.ofString "_law_k", 3)]) rfl sc__law_text.nd (i_rng1 rfl m_range (pa_c (p_b (pv 2)) pa_n)) (blkOk_by (N := sc__law_textN) (sc := defScope s__law_text) (by decide +kernel)) (fun _ _ _ _ _ => (pg_name (i := 3) sc__law_text.nd rfl (Or.inl rfl))) (fun _ _ _ _ _ => pts_y) (fun _ _ _ _ _ => (d_call c__law_letter hr takes0 (pa_c (p_b (pv 0)) pa_n))) (by decide))))))))
set_option maxHeartbeats 4000000 in
theorem ok__law_names {f : Addr} {fd : FuncData} (F : Fun K "_law_names" "_law_names" s__law_names f fd) (c__law_letter : Cl P w K mg base 2 "_law_letter" 1 F__law_letter []) (c__law_text : Cl P w K mg base 3 "_law_text" 2 F__law_text []) (m_int : mg "int" = none) (m_range : mg "range" = none) : FnOk P w K mg base (L2.CX P w) 4 f fd [(PySem.Str.ofString "_law_deck_here"), (PySem.Str.ofString "_law_count"), (PySem.Str.ofString "_law_barred")] (spD K mg 3 F__law_names) :=
  fn_dn (k := 3) (ks := [0, 1, 2]) (g := G__law_names) (N := sc__law_namesN) (ps := [(PySem.Str.ofString "_law_deck_here"), (PySem.Str.ofString "_law_count"), (PySem.Str.ofString "_law_barred")]) F sc__law_names 3 7 rfl rfl (fun cdv A outer s H E hr tk hp => by
    have hu := hr.units
    have hu5 := hr.units5
    exact (ss_cons (s_set (i := 3) sc__law_names.nd rfl (Or.inl rfl) (d_lst is_n))
  (ss_cons (s_for hp rfl (i_rng1 rfl m_range (pa_c (p_b (pv 1)) pa_n)) (pg_name (i := 4) sc__law_names.nd rfl (Or.inl rfl))
    (ss_cons (s_set (i := 5) sc__law_names.nd rfl (Or.inl rfl) (d_op o_add n_add (p_v (d_call c__law_letter hr tk (pa_c (p_b (pv 0)) pa_n))) (p_v (d_call c__law_text hr tk (pa_c (p_b (pv 0)) (pa_c (p_v d_int) pa_n))))))
  (ss_cons (s_for hp rfl (i_rng1 rfl m_range (pa_c (p_v d_int) pa_n)) (pg_name (i := 6) sc__law_names.nd rfl (Or.inl rfl))
    (ss_cons (s_if (c_w (w_and (c_cmp (o_notin hu5) n_notin (p_b (pv 5)) (p_b (pv 3)) (by rfl)) (w_one (c_cmp (o_notin hu5) n_notin (p_b (pv 5)) (p_b (pv 2)) (by rfl)))))
    (ss_one s_brk)
    ss_nil)
  (ss_one (s_set (i := 5) sc__law_names.nd rfl (Or.inl rfl) (d_op o_add n_add (p_b (pv 5)) (p_v (d_ix (ix_any hu) n_ix (p_v d_str) (p_v (d_op op_modN n_mod (p_v (d_ct call_int12 n_int rfl m_int bt_int (pa_c (p_v (d_op o_add n_add (p_v (d_op op_mul n_mul (p_b (pv 4)) (p_v d_int))) (p_b (pv 6)))) pa_n))) (p_v d_int))) (fun _ _ => rfl))))))) (by decide))
  (ss_one (s_drop (d_mut1 (pv 3) PySem.F.slot_list_append PySem.F.type_list_append mt_append u_app (d_var (pv 5))))))) (by decide))
  (ss_one (s_ret (d_move (pv 3)))))))
set_option maxHeartbeats 4000000 in
theorem ok__law_pattern {f : Addr} {fd : FuncData} (F : Fun K "_law_pattern" "_law_pattern" s__law_pattern f fd) (c__law_draw : Cl P w K mg base 1 "_law_draw" 2 F__law_draw []) (c__law_letter : Cl P w K mg base 2 "_law_letter" 1 F__law_letter []) (m_range : mg "range" = none) : FnOk P w K mg base (L2.CX P w) 3 f fd [(PySem.Str.ofString "_law_deck_here")] (spD K mg 1 F__law_pattern) :=
  fn_dn (k := 2) (ks := [0]) (g := G__law_pattern) (N := sc__law_patternN) (ps := [(PySem.Str.ofString "_law_deck_here")]) F sc__law_pattern 1 4 rfl rfl (fun cdv A outer s H E hr tk hp => by
    have hu := hr.units
    have hu5 := hr.units5
    exact (ss_cons (s_set (i := 1) sc__law_pattern.nd rfl (Or.inl rfl) d_str)
  (ss_cons (s_for hp rfl (i_rng1 rfl m_range (pa_c (p_v (d_call c__law_draw hr tk (pa_c (p_b (pv 0)) (pa_c (p_v d_int) pa_n)))) pa_n)) (pg_name (i := 2) sc__law_pattern.nd rfl (Or.inl rfl))
    (ss_cons (s_set (i := 3) sc__law_pattern.nd rfl (Or.inl rfl) (d_call c__law_draw hr tk (pa_c (p_b (pv 0)) (pa_c (p_v d_int) pa_n))))
  (ss_one (s_if (c_cmp (o_eq hu) n_eq (p_b (pv 3)) (p_v d_int) (nomark _))
    (ss_one (s_set (i := 1) sc__law_pattern.nd rfl (Or.inl rfl) (d_op o_add n_add (p_b (pv 1)) (p_v d_str))))
    (ss_one (s_if (c_w (w_and (c_cmp (o_eq hu) n_eq (p_b (pv 3)) (p_v d_int) (nomark _)) (w_one (c_cmp (o_ltX hu) n_ltX (p_v (d_m1 PySem.F.slot_str_count PySem.F.type_str_count mt_count n_count (p_b (pv 1)) (p_v d_str))) (p_v d_int) (nomark _)))))
    (ss_one (s_set (i := 1) sc__law_pattern.nd rfl (Or.inl rfl) (d_op o_add n_add (p_b (pv 1)) (p_v d_str))))
    (ss_one (s_set (i := 1) sc__law_pattern.nd rfl (Or.inl rfl) (d_op o_add n_add (p_b (pv 1)) (p_v (d_call c__law_letter hr tk (pa_c (p_b (pv 0)) pa_n))))))))))) (by decide))
  (ss_one (s_ret (d_move (pv 1)))))))
set_option maxHeartbeats 8000000 in
theorem ok__law_part {a__law_part : Addr} {d__law_part : FuncData} (F__law_part : Fun K "_law_part" "_law_part" s__law_part a__law_part d__law_part) (hm__law_part : mg "_law_part" = some (.ref a__law_part)) (hk__law_part : PySem.W.keepIn K (.ref a__law_part) = true) (c__law_draw : Cl P w K mg base 1 "_law_draw" 2 F__law_draw []) (c__law_pattern : Cl P w K mg base 3 "_law_pattern" 1 F__law_pattern []) (m_len : mg "len" = none) (m_min : mg "min" = none) (m_range : mg "range" = none) (m_tuple : mg "tuple" = none) : ∀ n : Nat, FnOk P w K mg base (L2.CX P w) (4 + n) a__law_part d__law_part [(PySem.Str.ofString "_law_deck_here"), (PySem.Str.ofString "_law_names_here"), (PySem.Str.ofString "_law_registers"), (PySem.Str.ofString "_law_depth")] (spD K mg 4 (Lw.F__law_part n))
  | 0 => fn_none rfl
  | n + 1 => by
    have ih := ok__law_part F__law_part hm__law_part hk__law_part c__law_draw c__law_pattern m_len m_min m_range m_tuple n
    have c__law_part : Cl P w K mg base (4 + n) "_law_part" 4 (Lw.F__law_part n) [] := cl_mk (ih) hm__law_part hk__law_part (F__law_part.binds fun _ _ _ _ _ _ us hl => match us, hl with | [_, _, _, _], _ => rfl)
    exact fn_dn (k := 4 + n) (ks := [0, 1, 2, 3]) (g := G__law_part (Lw.F__law_part n)) (N := sc__law_partN) (ps := [(PySem.Str.ofString "_law_deck_here"), (PySem.Str.ofString "_law_names_here"), (PySem.Str.ofString "_law_registers"), (PySem.Str.ofString "_law_depth")]) F__law_part sc__law_part 4 8 rfl rfl (fun cdv A outer s H E hr tk hp => by
      have hu := hr.units
      have hu5 := hr.units5
      exact (ss_cons (s_set (i := 4) sc__law_part.nd rfl (Or.inl rfl) (d_call (hk := by omega) c__law_draw hr tk (pa_c (p_b (pv 0)) (pa_c (p_v d_int) pa_n))))
  (ss_cons (s_if (c_w (w_and (c_cmp (o_ltX hu) n_ltX (p_b (pv 4)) (p_v d_int) (nomark _)) (w_one (c_cmp (o_gt hu) n_gt (p_b (pv 3)) (p_v d_int) (nomark _)))))
    (ss_cons (s_set (i := 5) sc__law_part.nd rfl (Or.inl rfl) (d_call (hk := by omega) c__law_draw hr tk (pa_c (p_b (pv 0)) (pa_c (p_v d_int) pa_n))))
  (ss_cons (s_if (c_cmp (o_eq hu) n_eq (p_v (d_call (hk := by omega) c__law_draw hr tk (pa_c (p_b (pv 0)) (pa_c (p_v d_int) pa_n)))) (p_v d_int) (nomark _))
    (ss_one (s_set (i := 5) sc__law_part.nd rfl (Or.inl rfl) (d_op o_add n_add (p_v d_int) (p_v (d_call (hk := by omega) c__law_draw hr tk (pa_c (p_b (pv 0)) (pa_c (p_v d_int) pa_n)))))))
    ss_nil)
  (ss_cons (s_set (i := 5) sc__law_part.nd rfl (Or.inl rfl) (d_cb (call_min2 rfl) n_min2 rfl m_min bt_min (pa_c (p_b (pv 5)) (pa_c (p_v (d_ix (ix_any hu) n_ix (p_b (pv 0)) (p_v d_int) (fun _ _ => rfl))) pa_n))))
  (ss_cons (s_setIx (pv 0) d_int (d_op op_sub n_sub (p_v (d_ix (ix_any hu) n_ix (p_b (pv 0)) (p_v d_int) (fun _ _ => rfl))) (p_b (pv 5))))
  (ss_cons (s_setLc (i := 6) (own := [(PySem.Str.ofString "_law_k", 7)]) rfl sc__law_part.nd rfl rfl (sw_true rfl rfl rfl (by decide +kernel)) (i_rng1 rfl m_range (pa_c (p_b (pv 5)) pa_n)) (blkOk_by (N := sc__law_partN) (sc := defScope s__law_part) (by decide +kernel)) (fun _ _ _ _ _ => (pg_name (i := 7) sc__law_part.nd rfl (Or.inl rfl))) (fun _ _ _ _ _ => pts_y) (fun _ _ _ _ _ => (d_call (hk := by omega) c__law_part hr takes0 (pa_c (p_b (pv 0)) (pa_c (p_b (pv 1)) (pa_c (p_b (pv 2)) (pa_c (p_v (d_op op_sub n_sub (p_b (pv 3)) (p_v d_int))) pa_n)))))) (by decide))
  (ss_cons (s_if (c_w (w_and (c_cmp (o_gt hu) n_gt (p_b (pv 5)) (p_v d_int) (nomark _)) (w_and (c_cmp (o_gt hu) n_gt (p_v (d_ix (ix_any hu) n_ix (p_b (pv 0)) (p_v d_int) (fun _ _ => rfl))) (p_v d_int) (nomark _)) (w_and (c_cmp (o_ltX hu) n_ltX (p_v (d_cb call_len n_len rfl m_len bt_len (pa_c (p_v (d_ix (ix_any hu) n_ix (p_b (pv 6)) (p_v d_int) (fun _ _ => rfl))) pa_n))) (p_v d_int) (nomark _)) (w_one (c_cmp (o_in hu5) n_in (p_v (d_ix (ix_any hu) n_ix (p_v (d_ix (ix_any hu) n_ix (p_b (pv 6)) (p_v d_int) (fun _ _ => rfl))) (p_v d_int) (fun _ _ => rfl))) (p_v (d_lst (hn := by simp) (is_c d_str (is_c d_str (is_c d_str is_n))))) (by rfl)))))))
    (ss_cons (s_setIx (pv 0) d_int (d_op op_sub n_sub (p_v (d_ix (ix_any hu) n_ix (p_b (pv 0)) (p_v d_int) (fun _ _ => rfl))) (p_v d_int)))
  (ss_one (s_drop (d_mut1 (pv 6) PySem.F.slot_list_append PySem.F.type_list_append mt_append u_app (d_ix (ix_any hu) n_ix (p_b (pv 6)) (p_v d_int) (fun _ _ => rfl))))))
    ss_nil)
  (ss_one (s_ret (d_op o_add n_add (p_v (d_tup (hn := by simp) (is_c (d_ix (ix_any hu) n_ix (p_v (d_lst (hn := by simp) (is_c d_str (is_c d_str is_n)))) (p_v (d_call (hk := by omega) c__law_draw hr tk (pa_c (p_b (pv 0)) (pa_c (p_v d_int) pa_n)))) (fun _ _ => rfl)) is_n))) (p_v (d_ct call_tuple_of n_tuple rfl m_tuple bt_tuple (pa_c (p_b (pv 6)) pa_n))))))))))))
    ss_nil)
  (ss_cons (s_if (c_w (w_and (c_cmp (o_eq hu) n_eq (p_b (pv 4)) (p_v d_int) (nomark _)) (w_and (c_cmp (o_gt hu) n_gt (p_b (pv 3)) (p_v d_int) (nomark _)) (w_one (c_cmp (o_gt hu) n_gt (p_v (d_ix (ix_any hu) n_ix (p_b (pv 0)) (p_v d_int) (fun _ _ => rfl))) (p_v d_int) (nomark _))))))
    (ss_cons (s_setIx (pv 0) d_int (d_op op_sub n_sub (p_v (d_ix (ix_any hu) n_ix (p_b (pv 0)) (p_v d_int) (fun _ _ => rfl))) (p_v d_int)))
  (ss_one (s_ret (d_tup (hn := by simp) (is_c d_str (is_c (d_call (hk := by omega) c__law_part hr tk (pa_c (p_b (pv 0)) (pa_c (p_b (pv 1)) (pa_c (p_b (pv 2)) (pa_c (p_v (d_op op_sub n_sub (p_b (pv 3)) (p_v d_int))) pa_n))))) is_n))))))
    ss_nil)
  (ss_cons (s_if (c_cmp (o_ltX hu) n_ltX (p_b (pv 4)) (p_v d_int) (nomark _))
    (ss_one (s_ret (d_tup (hn := by simp) (is_c d_str (is_c (d_ix (ix_any hu) n_ix (p_b (pv 1)) (p_v (d_call (hk := by omega) c__law_draw hr tk (pa_c (p_b (pv 0)) (pa_c (p_v (d_cb call_len n_len rfl m_len bt_len (pa_c (p_b (pv 1)) pa_n))) pa_n)))) (fun _ _ => rfl)) (is_c (d_call (hk := by omega) c__law_pattern hr tk (pa_c (p_b (pv 0)) pa_n)) is_n))))))
    ss_nil)
  (ss_cons (s_if (c_cmp (o_eq hu) n_eq (p_b (pv 4)) (p_v d_int) (nomark _))
    (ss_one (s_ret (d_tup (hn := by simp) (is_c d_str (is_c (d_ix (ix_any hu) n_ix (p_b (pv 1)) (p_v (d_call (hk := by omega) c__law_draw hr tk (pa_c (p_b (pv 0)) (pa_c (p_v (d_cb call_len n_len rfl m_len bt_len (pa_c (p_b (pv 1)) pa_n))) pa_n)))) (fun _ _ => rfl)) (is_c (d_ix (ix_any hu) n_ix (p_b (pv 1)) (p_v (d_call (hk := by omega) c__law_draw hr tk (pa_c (p_b (pv 0)) (pa_c (p_v (d_cb call_len n_len rfl m_len bt_len (pa_c (p_b (pv 1)) pa_n))) pa_n)))) (fun _ _ => rfl)) is_n))))))
    ss_nil)
  (ss_cons (s_if (c_w (w_and (c_cmp (o_eq hu) n_eq (p_b (pv 4)) (p_v d_int) (nomark _)) (w_one (c_cmp (o_gt hu) n_gt (p_v (d_cb call_len n_len rfl m_len bt_len (pa_c (p_b (pv 2)) pa_n))) (p_v d_int) (nomark _)))))
    (ss_one (s_ret (d_tup (hn := by simp) (is_c d_str (is_c (d_ix (ix_any hu) n_ix (p_b (pv 2)) (p_v (d_call (hk := by omega) c__law_draw hr tk (pa_c (p_b (pv 0)) (pa_c (p_v (d_cb call_len n_len rfl m_len bt_len (pa_c (p_b (pv 2)) pa_n))) pa_n)))) (fun _ _ => rfl)) is_n)))))
    ss_nil)
  (ss_one (s_ret (d_tup (hn := by simp) (is_c (d_ix (ix_any hu) n_ix (p_v (d_lst (hn := by simp) (is_c d_str (is_c d_str is_n)))) (p_v (d_call (hk := by omega) c__law_draw hr tk (pa_c (p_b (pv 0)) (pa_c (p_v d_int) pa_n)))) (fun _ _ => rfl)) is_n)))))))))))
set_option maxHeartbeats 4000000 in
theorem ok__law_condition {f : Addr} {fd : FuncData} (F : Fun K "_law_condition" "_law_condition" s__law_condition f fd) (c__law_part : Cl P w K mg base 44 "_law_part" 4 (Lw.F__law_part 40) []) : FnOk P w K mg base (L2.CX P w) 45 f fd [(PySem.Str.ofString "_law_deck_here"), (PySem.Str.ofString "_law_names_here"), (PySem.Str.ofString "_law_registers"), (PySem.Str.ofString "_law_depth")] (spD K mg 4 F__law_condition) :=
  fn_dn (k := 44) (ks := [0, 1, 2, 3]) (g := G__law_condition) (N := sc__law_conditionN) (ps := [(PySem.Str.ofString "_law_deck_here"), (PySem.Str.ofString "_law_names_here"), (PySem.Str.ofString "_law_registers"), (PySem.Str.ofString "_law_depth")]) F sc__law_condition 4 4 rfl rfl (fun cdv A outer s H E hr tk hp => by
    have hu := hr.units
    have hu5 := hr.units5
    exact (ss_cons (s_setIx (pv 0) d_int d_int)
  (ss_one (s_ret (d_call c__law_part hr tk (pa_c (p_b (pv 0)) (pa_c (p_b (pv 1)) (pa_c (p_b (pv 2)) (pa_c (p_b (pv 3)) pa_n)))))))))
set_option maxHeartbeats 4000000 in
theorem ok__law_source {f : Addr} {fd : FuncData} (F : Fun K "_law_source" "_law_source" s__law_source f fd) (c__law_draw : Cl P w K mg base 1 "_law_draw" 2 F__law_draw []) (c__law_text : Cl P w K mg base 3 "_law_text" 2 F__law_text []) (m_len : mg "len" = none) : FnOk P w K mg base (L2.CX P w) 4 f fd [(PySem.Str.ofString "_law_deck_here"), (PySem.Str.ofString "_law_names_here")] (spD K mg 2 F__law_source) :=
  fn_dn (k := 3) (ks := [0, 1]) (g := G__law_source) (N := sc__law_sourceN) (ps := [(PySem.Str.ofString "_law_deck_here"), (PySem.Str.ofString "_law_names_here")]) F sc__law_source 2 3 rfl rfl (fun cdv A outer s H E hr tk hp => by
    have hu := hr.units
    have hu5 := hr.units5
    exact (ss_cons (s_set (i := 2) sc__law_source.nd rfl (Or.inl rfl) (d_call c__law_draw hr tk (pa_c (p_b (pv 0)) (pa_c (p_v d_int) pa_n))))
  (ss_cons (s_if (c_cmp (o_ltX hu) n_ltX (p_b (pv 2)) (p_v d_int) (nomark _))
    (ss_one (s_ret (d_tup (is_c d_str (is_c (d_ix (ix_any hu) n_ix (p_b (pv 1)) (p_v (d_call c__law_draw hr tk (pa_c (p_b (pv 0)) (pa_c (p_v (d_cb call_len n_len rfl m_len bt_len (pa_c (p_b (pv 1)) pa_n))) pa_n)))) (fun _ _ => rfl)) is_n)))))
    ss_nil)
  (ss_cons (s_if (c_cmp (o_eq hu) n_eq (p_b (pv 2)) (p_v d_int) (nomark _))
    (ss_one (s_ret (d_tup (is_c d_str (is_c (d_call c__law_text hr tk (pa_c (p_b (pv 0)) (pa_c (p_v (d_ix (ix_any hu) n_ix (p_v (d_lst (is_c d_int (is_c d_int is_n)))) (p_v (d_call c__law_draw hr tk (pa_c (p_b (pv 0)) (pa_c (p_v d_int) pa_n)))) (fun _ _ => rfl))) pa_n))) is_n)))))
    ss_nil)
  (ss_one (s_ret (d_tup (is_c d_str (is_c (d_call c__law_draw hr tk (pa_c (p_b (pv 0)) (pa_c (p_v d_int) pa_n))) is_n)))))))))
set_option maxHeartbeats 4000000 in
theorem ok__law_line {f : Addr} {fd : FuncData} (F : Fun K "_law_line" "_law_line" s__law_line f fd) (c__law_draw : Cl P w K mg base 1 "_law_draw" 2 F__law_draw []) (c__law_source : Cl P w K mg base 4 "_law_source" 2 F__law_source []) : FnOk P w K mg base (L2.CX P w) 5 f fd [(PySem.Str.ofString "_law_deck_here"), (PySem.Str.ofString "_law_names_here")] (spD K mg 2 F__law_line) :=
  fn_dn (k := 4) (ks := [0, 1]) (g := G__law_line) (N := sc__law_lineN) (ps := [(PySem.Str.ofString "_law_deck_here"), (PySem.Str.ofString "_law_names_here")]) F sc__law_line 2 3 rfl rfl (fun cdv A outer s H E hr tk hp => by
    have hu := hr.units
    have hu5 := hr.units5
    exact (ss_cons (s_set (i := 2) sc__law_line.nd rfl (Or.inl rfl) (d_call c__law_draw hr tk (pa_c (p_b (pv 0)) (pa_c (p_v d_int) pa_n))))
  (ss_cons (s_if (c_cmp (o_ltX hu) n_ltX (p_b (pv 2)) (p_v d_int) (nomark _))
    (ss_one (s_ret (d_tup (is_c (d_ix (ix_any hu) n_ix (p_v (d_lst (is_c d_str (is_c d_str is_n)))) (p_b (pv 2)) (fun _ _ => rfl)) is_n))))
    ss_nil)
  (ss_one (s_ret (d_call c__law_source hr tk (pa_c (p_b (pv 0)) (pa_c (p_b (pv 1)) pa_n))))))))
set_option maxHeartbeats 4000000 in
theorem ok__law_rule {f : Addr} {fd : FuncData} (F : Fun K "_law_rule" "_law_rule" s__law_rule f fd) (c__law_condition : Cl P w K mg base 45 "_law_condition" 4 F__law_condition []) (c__law_draw : Cl P w K mg base 1 "_law_draw" 2 F__law_draw []) (c__law_letter : Cl P w K mg base 2 "_law_letter" 1 F__law_letter []) (c__law_line : Cl P w K mg base 5 "_law_line" 2 F__law_line []) (c__law_source : Cl P w K mg base 4 "_law_source" 2 F__law_source []) (c__law_text : Cl P w K mg base 3 "_law_text" 2 F__law_text []) (m_len : mg "len" = none) (m_list : mg "list" = none) (m_range : mg "range" = none) (m_tuple : mg "tuple" = none) : FnOk P w K mg base (L2.CX P w) 46 f fd [(PySem.Str.ofString "_law_deck_here"), (PySem.Str.ofString "_law_stations"), (PySem.Str.ofString "_law_registers"), (PySem.Str.ofString "_law_requests"), (PySem.Str.ofString "_law_first")] (spD K mg 5 F__law_rule) :=
  fn_dn (k := 45) (ks := [0, 1, 2, 3, 4]) (g := G__law_rule) (N := sc__law_ruleN) (ps := [(PySem.Str.ofString "_law_deck_here"), (PySem.Str.ofString "_law_stations"), (PySem.Str.ofString "_law_registers"), (PySem.Str.ofString "_law_requests"), (PySem.Str.ofString "_law_first")]) F sc__law_rule 5 13 rfl rfl (fun cdv A outer s H E hr tk hp => by
    have hu := hr.units
    have hu5 := hr.units5
    exact (ss_cons (s_set (i := 5) sc__law_rule.nd rfl (Or.inl rfl) (d_ix (ix_any hu) n_ix (p_b (pv 3)) (p_v d_int) (fun _ _ => rfl)))
  (ss_cons (s_if (c_not (c_tru (p_b (pv 4))))
    (ss_one (s_set (i := 5) sc__law_rule.nd rfl (Or.inl rfl) (d_ix (ix_any hu) n_ix (p_b (pv 3)) (p_v (d_call c__law_draw hr tk (pa_c (p_b (pv 0)) (pa_c (p_v (d_cb call_len n_len rfl m_len bt_len (pa_c (p_b (pv 3)) pa_n))) pa_n)))) (fun _ _ => rfl))))
    ss_nil)
  (ss_cons (s_set (i := 6) sc__law_rule.nd rfl (Or.inr rfl) (d_op o_add n_add (p_v (d_op o_add n_add (p_b (pv 2)) (p_v (d_ct (cr_listX rfl) n_listX rfl m_list bt_list (pa_c (p_v (d_sl10 (p_b (pv 5)) (p_v d_int))) pa_n))))) (p_v (d_lst (is_c d_str is_n)))))
  (ss_cons (s_set (i := 7) sc__law_rule.nd rfl (Or.inl rfl) d_non)
  (ss_cons (s_if (c_w (w_and (c_cmp (o_ne hu) n_ne (p_v (d_ix (ix_any hu) n_ix (p_b (pv 5)) (p_v d_int) (fun _ _ => rfl))) (p_v d_str) (nomark _)) (w_one (c_cmp (o_gt hu) n_gt (p_v (d_call c__law_draw hr tk (pa_c (p_b (pv 0)) (pa_c (p_v d_int) pa_n)))) (p_v d_int) (nomark _)))))
    (ss_one (s_set (i := 7) sc__law_rule.nd rfl (Or.inl rfl) (d_ix (ix_any hu) n_ix (p_b (pv 1)) (p_v (d_call c__law_draw hr tk (pa_c (p_b (pv 0)) (pa_c (p_v (d_cb call_len n_len rfl m_len bt_len (pa_c (p_b (pv 1)) pa_n))) pa_n)))) (fun _ _ => rfl))))
    ss_nil)
  (ss_cons (s_set (i := 8) sc__law_rule.nd rfl (Or.inl rfl) (d_tup (is_c d_str is_n)))
  (ss_cons (s_if (c_cmp (o_eq hu) n_eq (p_v (d_call c__law_draw hr tk (pa_c (p_b (pv 0)) (pa_c (p_v d_int) pa_n)))) (p_v d_int) (nomark _))
    (ss_one (s_set (i := 8) sc__law_rule.nd rfl (Or.inl rfl) (d_call c__law_condition hr tk (pa_c (p_b (pv 0)) (pa_c (p_b (pv 6)) (pa_c (p_b (pv 2)) (pa_c (p_v d_int) pa_n)))))))
    ss_nil)
  (ss_cons (s_set (i := 9) sc__law_rule.nd rfl (Or.inl rfl) (d_op o_add n_add (p_v (d_call c__law_letter hr tk (pa_c (p_b (pv 0)) pa_n))) (p_v (d_call c__law_text hr tk (pa_c (p_b (pv 0)) (pa_c (p_v (d_ix (ix_any hu) n_ix (p_v (d_lst (is_c d_int (is_c d_int (is_c d_int (is_c d_int is_n)))))) (p_v (d_call c__law_draw hr tk (pa_c (p_b (pv 0)) (pa_c (p_v d_int) pa_n)))) (fun _ _ => rfl))) pa_n))))))
  (ss_cons (s_set (i := 10) sc__law_rule.nd rfl (Or.inl rfl) (d_op o_add n_add (p_v (d_lst (is_c (d_var (pv 9)) is_n))) (p_v (d_comp (own := [(PySem.Str.ofString "_law_k", 12)]) rfl sc__law_rule.nd (i_rng1 rfl m_range (pa_c (p_v (d_ix (ix_any hu) n_ix (p_v (d_lst (is_c d_int (is_c d_int (is_c d_int (is_c d_int (is_c d_int (is_c d_int (is_c d_int is_n))))))))) (p_v (d_call c__law_draw hr tk (pa_c (p_b (pv 0)) (pa_c (p_v d_int) pa_n)))) (fun _ _ => rfl))) pa_n)) (blkOk_by (N := sc__law_ruleN) (sc := defScope s__law_rule) (by decide +kernel)) (fun _ _ _ _ _ => (pg_name (i := 12) sc__law_rule.nd rfl (Or.inl rfl))) (fun _ _ _ _ _ => pts_y) (fun _ _ _ _ _ => (d_call c__law_source hr takes0 (pa_c (p_b (pv 0)) (pa_c (p_b (pv 6)) pa_n)))) (by decide)))))
  (ss_cons (s_setLc (i := 11) (own := [(PySem.Str.ofString "_law_k", 12)]) rfl sc__law_rule.nd rfl rfl (sw_true rfl rfl rfl (by decide +kernel)) (i_rng1 rfl m_range (pa_c (p_v (d_cb call_len n_len rfl m_len bt_len (pa_c (p_b (pv 2)) pa_n))) pa_n)) (blkOk_by (N := sc__law_ruleN) (sc := defScope s__law_rule) (by decide +kernel)) (fun _ _ _ _ _ => (pg_name (i := 12) sc__law_rule.nd rfl (Or.inl rfl))) (fun _ _ _ _ _ => pts_y) (fun _ _ _ _ _ => (d_call c__law_line hr takes0 (pa_c (p_b (pv 0)) (pa_c (p_b (pv 6)) pa_n)))) (by decide))
  (ss_one (s_ret (d_tup (is_c (d_var (pv 7)) (is_c (d_ix (ix_any hu) n_ix (p_b (pv 5)) (p_v d_int) (fun _ _ => rfl)) (is_c (d_var (pv 8)) (is_c (d_ct call_tuple_of n_tuple rfl m_tuple bt_tuple (pa_c (p_b (pv 10)) pa_n)) (is_c (d_ct call_tuple_of n_tuple rfl m_tuple bt_tuple (pa_c (p_b (pv 11)) pa_n)) (is_c (d_ix (ix_any hu) n_ix (p_b (pv 1)) (p_v (d_call c__law_draw hr tk (pa_c (p_b (pv 0)) (pa_c (p_v (d_cb call_len n_len rfl m_len bt_len (pa_c (p_b (pv 1)) pa_n))) pa_n)))) (fun _ _ => rfl)) is_n))))))))))))))))))))
set_option maxHeartbeats 4000000 in
theorem ok__law_service {f : Addr} {fd : FuncData} (F : Fun K "_law_service" "_law_service" s__law_service f fd) (c__law_draw : Cl P w K mg base 1 "_law_draw" 2 F__law_draw []) (c__law_names : Cl P w K mg base 4 "_law_names" 3 F__law_names []) (c__law_rule : Cl P w K mg base 46 "_law_rule" 5 F__law_rule []) (m_range : mg "range" = none) (m_tuple : mg "tuple" = none) : FnOk P w K mg base (L2.CX P w) 47 f fd [(PySem.Str.ofString "_law_deck_here")] (spD K mg 1 F__law_service) :=
  fn_dn (k := 46) (ks := [0]) (g := G__law_service) (N := sc__law_serviceN) (ps := [(PySem.Str.ofString "_law_deck_here")]) F sc__law_service 1 8 rfl rfl (fun cdv A outer s H E hr tk hp => by
    have hu := hr.units
    have hu5 := hr.units5
    exact (ss_cons (s_set (i := 1) sc__law_service.nd rfl (Or.inl rfl) (d_call c__law_names hr tk (pa_c (p_b (pv 0)) (pa_c (p_v (d_op o_add n_add (p_v d_int) (p_v (d_call c__law_draw hr tk (pa_c (p_b (pv 0)) (pa_c (p_v d_int) pa_n)))))) (pa_c (p_v (d_lst is_n)) pa_n)))))
  (ss_cons (s_set (i := 2) sc__law_service.nd rfl (Or.inl rfl) (d_call c__law_names hr tk (pa_c (p_b (pv 0)) (pa_c (p_v (d_call c__law_draw hr tk (pa_c (p_b (pv 0)) (pa_c (p_v d_int) pa_n)))) (pa_c (p_v (d_lst (is_c d_str is_n))) pa_n)))))
  (ss_cons (s_set (i := 3) sc__law_service.nd rfl (Or.inl rfl) (d_op o_add n_add (p_v (d_lst (is_c d_str is_n))) (p_v (d_call c__law_names hr tk (pa_c (p_b (pv 0)) (pa_c (p_v (d_call c__law_draw hr tk (pa_c (p_b (pv 0)) (pa_c (p_v d_int) pa_n)))) (pa_c (p_v (d_lst (is_c d_str is_n))) pa_n)))))))
  (ss_cons (s_set (i := 4) sc__law_service.nd rfl (Or.inl rfl) (d_lst is_n))
  (ss_cons (s_for hp rfl (i_seq (d_var (pv 3))) (pg_name (i := 5) sc__law_service.nd rfl (Or.inl rfl))
    (ss_one (s_drop (d_mut1 (pv 4) PySem.F.slot_list_append PySem.F.type_list_append mt_append u_app (d_op o_add n_add (p_v (d_tup (is_c (d_var (pv 5)) is_n))) (p_v (d_ct call_tuple_of n_tuple rfl m_tuple bt_tuple (pa_c (p_v (d_call c__law_names hr tk (pa_c (p_b (pv 0)) (pa_c (p_v (d_call c__law_draw hr tk (pa_c (p_b (pv 0)) (pa_c (p_v d_int) pa_n)))) (pa_c (p_v (d_op o_add n_add (p_b (pv 2)) (p_v (d_lst (is_c d_str is_n))))) pa_n))))) pa_n))))))) (by decide))
  (ss_cons (s_set (i := 6) sc__law_service.nd rfl (Or.inl rfl) (d_lst is_n))
  (ss_cons (s_for hp rfl (i_rng1 rfl m_range (pa_c (p_v (d_call c__law_draw hr tk (pa_c (p_b (pv 0)) (pa_c (p_v d_int) pa_n)))) pa_n)) (pg_name (i := 7) sc__law_service.nd rfl (Or.inl rfl))
    (ss_one (s_drop (d_mut1 (pv 6) PySem.F.slot_list_append PySem.F.type_list_append mt_append u_app (d_call c__law_rule hr tk (pa_c (p_b (pv 0)) (pa_c (p_b (pv 1)) (pa_c (p_b (pv 2)) (pa_c (p_b (pv 4)) (pa_c (p_v (d_cmp (o_eq hu) n_eq (p_b (pv 7)) (p_v d_int) (nomark _))) pa_n))))))))) (by decide))
  (ss_one (s_ret (d_tup (is_c (d_var (pv 1)) (is_c (d_var (pv 2)) (is_c (d_var (pv 4)) (is_c (d_var (pv 6)) is_n)))))))))))))))
set_option maxHeartbeats 4000000 in
theorem ok_is_name {f : Addr} {fd : FuncData} (F : Fun K "is_name" "is_name" s_is_name f fd) (g_LETTERS : ∃ u, mg "LETTERS" = some u ∧ RelV (.str (PySem.Str.ofString "abcdefghijklmnopqrstuvwxyz")) u) (g_NAME_MOST : ∃ u, mg "NAME_MOST" = some u ∧ RelV (.int 12) u) (m_all : mg "all" = none) (m_isinstance : mg "isinstance" = none) (m_len : mg "len" = none) (m_str : mg "str" = none) : FnOk P w K mg base (L2.CX P w) 1 f fd [(PySem.Str.ofString "value")] (spD K mg 1 F_is_name) :=
  fn_dn (k := 0) (ks := [0]) (g := G_is_name) (N := sc_is_nameN) (ps := [(PySem.Str.ofString "value")]) F sc_is_name 1 2 rfl rfl (fun cdv A outer s H E hr tk hp => by
    have hu := hr.units
    have hu5 := hr.units5
    exact (ss_cons (s_if (c_w (w_or (c_not (c_tst (d_isi rfl m_isinstance rfl m_str bt_str bt_isinstance (p_b (pv 0))))) (w_one (c_not (c_chain (o_le hu) n_le (o_le hu) n_le d_int (d_cb call_len n_len rfl m_len bt_len (pa_c (p_b (pv 0)) pa_n)) (d_g (by rfl) g_NAME_MOST (fun _ => .int _)))))))
    (ss_one (s_ret d_bl))
    ss_nil)
  (ss_one (s_ret (d_cb (cr_all rfl) n_all rfl m_all bt_all (pa_c (p_v (d_comp (own := [(PySem.Str.ofString "letter", 1)]) rfl sc_is_name.nd (i_seq (d_var (pv 0))) (blkOk_by (N := sc_is_nameN) (sc := defScope s_is_name) (by decide +kernel)) (fun _ _ _ _ _ => (pg_name (i := 1) sc_is_name.nd rfl (Or.inl rfl))) (fun _ _ _ _ _ => pts_y) (fun _ _ _ _ _ => (d_cmp (o_in hu5) n_in (p_b (pv 1)) (p_v (d_g (by rfl) g_LETTERS (fun _ => .str _))) (by rfl))) (by decide))) pa_n))))))
set_option maxHeartbeats 4000000 in
theorem ok_check_names {f : Addr} {fd : FuncData} (F : Fun K "check_names" "check_names" s_check_names f fd) (c_is_name : Cl P w K mg base 1 "is_name" 1 F_is_name []) (e_BadName : Er P w K mg base 2 "BadName") (e_DuplicateName : Er P w K mg base 2 "DuplicateName") (m_enumerate : mg "enumerate" = none) : FnOk P w K mg base (L2.CX P w) 4 f fd [(PySem.Str.ofString "names")] (spD K mg 1 F_check_names) :=
  fn_dn (k := 3) (ks := [0]) (g := G_check_names) (N := sc_check_namesN) (ps := [(PySem.Str.ofString "names")]) F sc_check_names 1 3 rfl rfl (fun cdv A outer s H E hr tk hp => by
    have hu := hr.units
    have hu5 := hr.units5
    exact (ss_one (s_for hp rfl (i_enum rfl m_enumerate (d_var (pv 0))) (pg_tup rfl (pgs_cons (pg_name (i := 1) sc_check_names.nd rfl (Or.inl rfl)) (pgs_cons (pg_name (i := 2) sc_check_names.nd rfl (Or.inl rfl)) pgs_nil)))
    (ss_cons (s_if (c_not (c_tst (d_call c_is_name hr tk (pa_c (p_b (pv 2)) pa_n))))
    (ss_one (s_raise e_BadName hr tk (d_var (pv 2))))
    ss_nil)
  (ss_one (s_if (c_cmp (o_in hu5) n_in (p_b (pv 2)) (p_v (d_sl01 (p_b (pv 0)) (p_b (pv 1)))) (by rfl))
    (ss_one (s_raise e_DuplicateName hr tk (d_var (pv 2))))
    ss_nil))) (by decide))))
set_option maxHeartbeats 4000000 in
theorem ok_is_kind {f : Addr} {fd : FuncData} (F : Fun K "is_kind" "is_kind" s_is_kind f fd) (c_is_name : Cl P w K mg base 1 "is_name" 1 F_is_name []) (g_VALUES_MOST : ∃ u, mg "VALUES_MOST" = some u ∧ RelV (.int 3) u) (m_all : mg "all" = none) (m_len : mg "len" = none) (m_range : mg "range" = none) : FnOk P w K mg base (L2.CX P w) 2 f fd [(PySem.Str.ofString "kind"), (PySem.Str.ofString "registers")] (spD K mg 2 F_is_kind) :=
  fn_dn (k := 1) (ks := [0, 1]) (g := G_is_kind) (N := sc_is_kindN) (ps := [(PySem.Str.ofString "kind"), (PySem.Str.ofString "registers")]) F sc_is_kind 2 5 rfl rfl (fun cdv A outer s H E hr tk hp => by
    have hu := hr.units
    have hu5 := hr.units5
    exact (ss_cons (s_if (c_w (w_or (c_not (c_chain (o_le hu) n_le (o_le hu) n_le d_int (d_cb call_len n_len rfl m_len bt_len (pa_c (p_b (pv 0)) pa_n)) (d_op o_add n_add (p_v (d_g (by rfl) g_VALUES_MOST (fun _ => .int _))) (p_v d_int)))) (w_one (c_not (c_tst (d_cb (cr_all rfl) n_all rfl m_all bt_all (pa_c (p_v (d_comp (own := [(PySem.Str.ofString "name", 4)]) rfl sc_is_kind.nd (i_seq (d_var (pv 0))) (blkOk_by (N := sc_is_kindN) (sc := defScope s_is_kind) (by decide +kernel)) (fun _ _ _ _ _ => (pg_name (i := 4) sc_is_kind.nd rfl (Or.inl rfl))) (fun _ _ _ _ _ => pts_y) (fun _ _ _ _ _ => (d_call c_is_name hr takes0 (pa_c (p_b (pv 4)) pa_n))) (by decide))) pa_n)))))))
    (ss_one (s_ret d_bl))
    ss_nil)
  (ss_cons (s_set (i := 2) sc_is_kind.nd rfl (Or.inl rfl) (d_sl10 (p_b (pv 0)) (p_v d_int)))
  (ss_cons (s_for hp rfl (i_rng1 rfl m_range (pa_c (p_v (d_cb call_len n_len rfl m_len bt_len (pa_c (p_b (pv 2)) pa_n))) pa_n)) (pg_name (i := 3) sc_is_kind.nd rfl (Or.inl rfl))
    (ss_one (s_if (c_w (w_or (c_cmp (o_eq hu) n_eq (p_v (d_ix (ix_any hu) n_ix (p_b (pv 2)) (p_b (pv 3)) (fun _ _ => rfl))) (p_v d_str) (nomark _)) (w_or (c_cmp (o_in hu5) n_in (p_v (d_ix (ix_any hu) n_ix (p_b (pv 2)) (p_b (pv 3)) (fun _ _ => rfl))) (p_b (pv 1)) (by rfl)) (w_one (c_cmp (o_in hu5) n_in (p_v (d_ix (ix_any hu) n_ix (p_b (pv 2)) (p_b (pv 3)) (fun _ _ => rfl))) (p_v (d_sl01 (p_b (pv 2)) (p_b (pv 3)))) (by rfl))))))
    (ss_one (s_ret d_bl))
    ss_nil)) (by decide))
  (ss_one (s_ret d_bl))))))
set_option maxHeartbeats 4000000 in
theorem ok_check_kinds {f : Addr} {fd : FuncData} (F : FunX K "check_kinds" "check_kinds" s_check_kinds f fd) (c_is_kind : Cl P w K mg base 2 "is_kind" 2 F_is_kind []) (e_BadKinds : Er P w K mg base 2 "BadKinds") (g_KINDS_MOST : ∃ u, mg "KINDS_MOST" = some u ∧ RelV (.int 6) u) (m_len : mg "len" = none) (m_range : mg "range" = none) : FnOk P w K mg base (L2.CX P w) 4 f fd [(PySem.Str.ofString "kinds"), (PySem.Str.ofString "registers")] (spD K mg 2 F_check_kinds) :=
  fn_dnX (k := 3) (ks := [0, 1]) (g := G_check_kinds) (N := sc_check_kindsN) (ps := [(PySem.Str.ofString "kinds"), (PySem.Str.ofString "registers")]) F sc_check_kinds 2 5 rfl rfl (fun cdv A outer s H E hr tk hp => by
    have hu := hr.units
    have hu5 := hr.units5
    exact (ss_cons (s_if (c_not (c_chain (o_le hu) n_le (o_le hu) n_le d_int (d_cb call_len n_len rfl m_len bt_len (pa_c (p_b (pv 0)) pa_n)) (d_g (by rfl) g_KINDS_MOST (fun _ => .int _))))
    (ss_one (s_raise0 e_BadKinds hr tk))
    ss_nil)
  (ss_cons (s_for hp rfl (i_seq (d_var (pv 0))) (pg_name (i := 2) sc_check_kinds.nd rfl (Or.inl rfl))
    (ss_one (s_if (c_not (c_tst (d_call c_is_kind hr tk (pa_c (p_b (pv 2)) (pa_c (p_b (pv 1)) pa_n)))))
    (ss_one (s_raise0 e_BadKinds hr tk))
    ss_nil)) (by decide))
  (ss_cons (s_setLc (i := 3) (own := [(PySem.Str.ofString "kind", 2)]) rfl sc_check_kinds.nd rfl rfl (sw_true rfl rfl rfl (by decide +kernel)) (i_seq (d_var (pv 0))) (blkOk_by (N := sc_check_kindsN) (sc := defScope s_check_kinds) (by decide +kernel)) (fun _ _ _ _ _ => (pg_name (i := 2) sc_check_kinds.nd rfl (Or.inl rfl))) (fun _ _ _ _ _ => pts_y) (fun _ _ _ _ _ => (d_ix (ix_any hu) n_ix (p_b (pv 2)) (p_v d_int) (fun _ _ => rfl))) (by decide))
  (ss_cons (s_if (c_cmp (o_ne hu) n_ne (p_v (d_ix (ix_any hu) n_ix (p_b (pv 3)) (p_v d_int) (fun _ _ => rfl))) (p_v d_str) (nomark _))
    (ss_one (s_raise0 e_BadKinds hr tk))
    ss_nil)
  (ss_one (s_for hp rfl (i_rng1 rfl m_range (pa_c (p_v (d_cb call_len n_len rfl m_len bt_len (pa_c (p_b (pv 3)) pa_n))) pa_n)) (pg_name (i := 4) sc_check_kinds.nd rfl (Or.inl rfl))
    (ss_one (s_if (c_cmp (o_in hu5) n_in (p_v (d_ix (ix_any hu) n_ix (p_b (pv 3)) (p_b (pv 4)) (fun _ _ => rfl))) (p_v (d_sl01 (p_b (pv 3)) (p_b (pv 4)))) (by rfl))
    (ss_one (s_raise0 e_BadKinds hr tk))
    ss_nil)) (by decide))))))))
set_option maxHeartbeats 4000000 in
theorem ok_check_name {f : Addr} {fd : FuncData} (F : Fun K "check_name" "check_name" s_check_name f fd) (e_UnknownName : Er P w K mg base 2 "UnknownName") : FnOk P w K mg base (L2.CX P w) 4 f fd [(PySem.Str.ofString "name"), (PySem.Str.ofString "names")] (spD K mg 2 F_check_name) :=
  fn_dn (k := 3) (ks := [0, 1]) (g := G_check_name) (N := sc_check_nameN) (ps := [(PySem.Str.ofString "name"), (PySem.Str.ofString "names")]) F sc_check_name 2 2 rfl rfl (fun cdv A outer s H E hr tk hp => by
    have hu := hr.units
    have hu5 := hr.units5
    exact (ss_one (s_if (c_cmp (o_notin hu5) n_notin (p_b (pv 0)) (p_b (pv 1)) (by rfl))
    (ss_one (s_raise e_UnknownName hr tk (d_var (pv 0))))
    ss_nil)))
set_option maxHeartbeats 4000000 in
theorem ok_is_pattern {f : Addr} {fd : FuncData} (F : Fun K "is_pattern" "is_pattern" s_is_pattern f fd) (g_LETTERS : ∃ u, mg "LETTERS" = some u ∧ RelV (.str (PySem.Str.ofString "abcdefghijklmnopqrstuvwxyz")) u) (g_SIGNS_MOST : ∃ u, mg "SIGNS_MOST" = some u ∧ RelV (.int 8) u) (g_STARS_MOST : ∃ u, mg "STARS_MOST" = some u ∧ RelV (.int 2) u) (m_all : mg "all" = none) (m_isinstance : mg "isinstance" = none) (m_len : mg "len" = none) (m_str : mg "str" = none) : FnOk P w K mg base (L2.CX P w) 1 f fd [(PySem.Str.ofString "value")] (spD K mg 1 F_is_pattern) :=
  fn_dn (k := 0) (ks := [0]) (g := G_is_pattern) (N := sc_is_patternN) (ps := [(PySem.Str.ofString "value")]) F sc_is_pattern 1 2 rfl rfl (fun cdv A outer s H E hr tk hp => by
    have hu := hr.units
    have hu5 := hr.units5
    exact (ss_cons (s_if (c_w (w_or (c_not (c_tst (d_isi rfl m_isinstance rfl m_str bt_str bt_isinstance (p_b (pv 0))))) (w_one (c_cmp (o_gt hu) n_gt (p_v (d_cb call_len n_len rfl m_len bt_len (pa_c (p_b (pv 0)) pa_n))) (p_v (d_g (by rfl) g_SIGNS_MOST (fun _ => .int _))) (nomark _)))))
    (ss_one (s_ret d_bl))
    ss_nil)
  (ss_cons (s_if (c_cmp (o_gt hu) n_gt (p_v (d_m1 PySem.F.slot_str_count PySem.F.type_str_count mt_count n_count (p_b (pv 0)) (p_v d_str))) (p_v (d_g (by rfl) g_STARS_MOST (fun _ => .int _))) (nomark _))
    (ss_one (s_ret d_bl))
    ss_nil)
  (ss_one (s_ret (d_cb (cr_all rfl) n_all rfl m_all bt_all (pa_c (p_v (d_comp (own := [(PySem.Str.ofString "sign", 1)]) rfl sc_is_pattern.nd (i_seq (d_var (pv 0))) (blkOk_by (N := sc_is_patternN) (sc := defScope s_is_pattern) (by decide +kernel)) (fun _ _ _ _ _ => (pg_name (i := 1) sc_is_pattern.nd rfl (Or.inl rfl))) (fun _ _ _ _ _ => pts_y) (fun _ _ _ _ _ => (d_or (d_cmp (o_in hu5) n_in (p_b (pv 1)) (p_v (d_g (by rfl) g_LETTERS (fun _ => .str _))) (by rfl)) (d_one (d_cmp (o_in hu5) n_in (p_b (pv 1)) (p_v d_str) (by rfl))))) (by decide))) pa_n)))))))
set_option maxHeartbeats 4000000 in
theorem ok_check_node {f : Addr} {fd : FuncData} (F : Fun K "check_node" "check_node" s_check_node f fd) (c_check_name : Cl P w K mg base 4 "check_name" 2 F_check_name []) (c_is_pattern : Cl P w K mg base 1 "is_pattern" 1 F_is_pattern []) (e_BadCondition : Er P w K mg base 2 "BadCondition") (e_BadPattern : Er P w K mg base 2 "BadPattern") (g_LENGTHS : KTab K w mg "LENGTHS" [(PySem.Str.ofString "always", (1 : Int)), (PySem.Str.ofString "never", (1 : Int)), (PySem.Str.ofString "not", (2 : Int)), (PySem.Str.ofString "matches", (3 : Int)), (PySem.Str.ofString "same", (3 : Int)), (PySem.Str.ofString "empty", (2 : Int))]) (m_isinstance : mg "isinstance" = none) (m_len : mg "len" = none) (m_str : mg "str" = none) (m_tuple : mg "tuple" = none) : FnOk P w K mg base (L2.CX P w) 5 f fd [(PySem.Str.ofString "condition"), (PySem.Str.ofString "names"), (PySem.Str.ofString "registers")] (spD K mg 3 F_check_node) :=
  fn_dn (k := 4) (ks := [0, 1, 2]) (g := G_check_node) (N := sc_check_nodeN) (ps := [(PySem.Str.ofString "condition"), (PySem.Str.ofString "names"), (PySem.Str.ofString "registers")]) F sc_check_node 3 4 rfl rfl (fun cdv A outer s H E hr tk hp => by
    have hu := hr.units
    have hu5 := hr.units5
    exact (ss_cons (s_if (c_w (w_or (c_not (c_tst (d_isi rfl m_isinstance rfl m_tuple bt_tuple bt_isinstance (p_b (pv 0))))) (w_or (c_cmp (o_eq hu) n_eq (p_v (d_cb call_len n_len rfl m_len bt_len (pa_c (p_b (pv 0)) pa_n))) (p_v d_int) (nomark _)) (w_one (c_not (c_tst (d_isi rfl m_isinstance rfl m_str bt_str bt_isinstance (p_v (d_ix (ix_any hu) n_ix (p_b (pv 0)) (p_v d_int) (fun _ _ => rfl))))))))))
    (ss_one (s_raise e_BadCondition hr tk (d_var (pv 0))))
    ss_nil)
  (ss_cons (s_set (i := 3) sc_check_node.nd rfl (Or.inl rfl) (d_ix (ix_any hu) n_ix (p_b (pv 0)) (p_v d_int) (fun _ _ => rfl)))
  (ss_cons (s_if (c_w (w_and (c_cmp (o_notin hu5) n_notin (p_b (pv 3)) (p_v (d_tup (is_c d_str (is_c d_str is_n)))) (by rfl)) (w_one (c_cmp (o_ne hu) n_ne (p_v (d_tabGet g_LENGTHS (p_b (pv 3)) (p_v d_int) ⟨by rfl, by rfl, by rfl, by rfl⟩ (by rfl))) (p_v (d_cb call_len n_len rfl m_len bt_len (pa_c (p_b (pv 0)) pa_n))) (nomark _)))))
    (ss_one (s_raise e_BadCondition hr tk (d_var (pv 0))))
    ss_nil)
  (ss_one (s_if (c_cmp (o_eq hu) n_eq (p_b (pv 3)) (p_v d_str) (nomark _))
    (ss_cons (s_drop (d_call c_check_name hr tk (pa_c (p_v (d_ix (ix_any hu) n_ix (p_b (pv 0)) (p_v d_int) (fun _ _ => rfl))) (pa_c (p_b (pv 1)) pa_n))))
  (ss_one (s_if (c_not (c_tst (d_call c_is_pattern hr tk (pa_c (p_v (d_ix (ix_any hu) n_ix (p_b (pv 0)) (p_v d_int) (fun _ _ => rfl))) pa_n))))
    (ss_one (s_raise e_BadPattern hr tk (d_ix (ix_any hu) n_ix (p_b (pv 0)) (p_v d_int) (fun _ _ => rfl))))
    ss_nil)))
    (ss_one (s_if (c_cmp (o_eq hu) n_eq (p_b (pv 3)) (p_v d_str) (nomark _))
    (ss_cons (s_drop (d_call c_check_name hr tk (pa_c (p_v (d_ix (ix_any hu) n_ix (p_b (pv 0)) (p_v d_int) (fun _ _ => rfl))) (pa_c (p_b (pv 1)) pa_n))))
  (ss_one (s_drop (d_call c_check_name hr tk (pa_c (p_v (d_ix (ix_any hu) n_ix (p_b (pv 0)) (p_v d_int) (fun _ _ => rfl))) (pa_c (p_b (pv 1)) pa_n))))))
    (ss_one (s_if (c_cmp (o_eq hu) n_eq (p_b (pv 3)) (p_v d_str) (nomark _))
    (ss_one (s_drop (d_call c_check_name hr tk (pa_c (p_v (d_ix (ix_any hu) n_ix (p_b (pv 0)) (p_v d_int) (fun _ _ => rfl))) (pa_c (p_b (pv 2)) pa_n)))))
    ss_nil))))))))))
set_option maxHeartbeats 4000000 in
theorem ok_parts_of {f : Addr} {fd : FuncData} (F : Fun K "parts_of" "parts_of" s_parts_of f fd)  : FnOk P w K mg base (L2.CX P w) 1 f fd [(PySem.Str.ofString "condition")] (spD K mg 1 F_parts_of) :=
  fn_dn (k := 0) (ks := [0]) (g := G_parts_of) (N := sc_parts_ofN) (ps := [(PySem.Str.ofString "condition")]) F sc_parts_of 1 1 rfl rfl (fun cdv A outer s H E hr tk hp => by
    have hu := hr.units
    have hu5 := hr.units5
    exact (ss_cons (s_if (c_cmp (o_in hu5) n_in (p_v (d_ix (ix_any hu) n_ix (p_b (pv 0)) (p_v d_int) (fun _ _ => rfl))) (p_v (d_tup (is_c d_str (is_c d_str (is_c d_str is_n))))) (by rfl))
    (ss_one (s_ret (d_sl10 (p_b (pv 0)) (p_v d_int))))
    ss_nil)
  (ss_one (s_ret (d_tup is_n)))))
set_option maxHeartbeats 8000000 in
theorem ok_check_parts {a_check_parts : Addr} {d_check_parts : FuncData} (F_check_parts : Fun K "check_parts" "check_parts" s_check_parts a_check_parts d_check_parts) (hm_check_parts : mg "check_parts" = some (.ref a_check_parts)) (hk_check_parts : PySem.W.keepIn K (.ref a_check_parts) = true) (c_check_node : Cl P w K mg base 5 "check_node" 3 F_check_node []) (c_parts_of : Cl P w K mg base 1 "parts_of" 1 F_parts_of []) (e_BadCondition : Er P w K mg base 2 "BadCondition") : ∀ n : Nat, FnOk P w K mg base (L2.CX P w) (6 + n) a_check_parts d_check_parts [(PySem.Str.ofString "condition"), (PySem.Str.ofString "names"), (PySem.Str.ofString "registers"), (PySem.Str.ofString "depth")] (spD K mg 4 (Lw.F_check_parts n))
  | 0 => fn_none rfl
  | n + 1 => by
    have ih := ok_check_parts F_check_parts hm_check_parts hk_check_parts c_check_node c_parts_of e_BadCondition n
    have c_check_parts : Cl P w K mg base (6 + n) "check_parts" 4 (Lw.F_check_parts n) [] := cl_mk (ih) hm_check_parts hk_check_parts (F_check_parts.binds fun _ _ _ _ _ _ us hl => match us, hl with | [_, _, _, _], _ => rfl)
    exact fn_dn (k := 6 + n) (ks := [0, 1, 2, 3]) (g := G_check_parts (Lw.F_check_parts n)) (N := sc_check_partsN) (ps := [(PySem.Str.ofString "condition"), (PySem.Str.ofString "names"), (PySem.Str.ofString "registers"), (PySem.Str.ofString "depth")]) F_check_parts sc_check_parts 4 5 rfl rfl (fun cdv A outer s H E hr tk hp => by
      have hu := hr.units
      have hu5 := hr.units5
      exact (ss_cons (s_if (c_cmp (o_eq hu) n_eq (p_b (pv 3)) (p_v d_int) (nomark _))
    (ss_one (s_raise (hk := by omega) e_BadCondition hr tk (d_var (pv 0))))
    ss_nil)
  (ss_cons (s_drop (d_call (hk := by omega) c_check_node hr tk (pa_c (p_b (pv 0)) (pa_c (p_b (pv 1)) (pa_c (p_b (pv 2)) pa_n)))))
  (ss_one (s_for hp rfl (i_seq (d_call (hk := by omega) c_parts_of hr tk (pa_c (p_b (pv 0)) pa_n))) (pg_name (i := 4) sc_check_parts.nd rfl (Or.inl rfl))
    (ss_one (s_drop (d_call (hk := by omega) c_check_parts hr tk (pa_c (p_b (pv 4)) (pa_c (p_b (pv 1)) (pa_c (p_b (pv 2)) (pa_c (p_v (d_op op_sub n_sub (p_b (pv 3)) (p_v d_int))) pa_n))))))) (by decide))))))
set_option maxHeartbeats 8000000 in
theorem ok_size_of {a_size_of : Addr} {d_size_of : FuncData} (F_size_of : Fun K "size_of" "size_of" s_size_of a_size_of d_size_of) (hm_size_of : mg "size_of" = some (.ref a_size_of)) (hk_size_of : PySem.W.keepIn K (.ref a_size_of) = true) (c_parts_of : Cl P w K mg base 1 "parts_of" 1 F_parts_of []) (m_sum : mg "sum" = none) : ∀ n : Nat, FnOk P w K mg base (L2.CX P w) (2 + n) a_size_of d_size_of [(PySem.Str.ofString "condition")] (spD K mg 1 (Lw.F_size_of n))
  | 0 => fn_none rfl
  | n + 1 => by
    have ih := ok_size_of F_size_of hm_size_of hk_size_of c_parts_of m_sum n
    have c_size_of : Cl P w K mg base (2 + n) "size_of" 1 (Lw.F_size_of n) [] := cl_mk (ih) hm_size_of hk_size_of (F_size_of.binds fun _ _ _ _ _ _ us hl => match us, hl with | [_], _ => rfl)
    exact fn_dn (k := 2 + n) (ks := [0]) (g := G_size_of (Lw.F_size_of n)) (N := sc_size_ofN) (ps := [(PySem.Str.ofString "condition")]) F_size_of sc_size_of 1 2 rfl rfl (fun cdv A outer s H E hr tk hp => by
      have hu := hr.units
      have hu5 := hr.units5
      exact (ss_one (s_ret (d_op o_add n_add (p_v d_int) (p_v (d_cb (cr_sum rfl) n_sum rfl m_sum bt_sum (pa_c (p_v (d_comp (own := [(PySem.Str.ofString "part", 1)]) rfl sc_size_of.nd (i_seq (d_call (hk := by omega) c_parts_of hr tk (pa_c (p_b (pv 0)) pa_n))) (blkOk_by (N := sc_size_ofN) (sc := defScope s_size_of) (by decide +kernel)) (fun _ _ _ _ _ => (pg_name (i := 1) sc_size_of.nd rfl (Or.inl rfl))) (fun _ _ _ _ _ => pts_y) (fun _ _ _ _ _ => (d_call (hk := by omega) c_size_of hr takes0 (pa_c (p_b (pv 1)) pa_n))) (by decide))) pa_n)))))))
set_option maxHeartbeats 4000000 in
theorem ok_check_condition {f : Addr} {fd : FuncData} (F : Fun K "check_condition" "check_condition" s_check_condition f fd) (c_check_parts : Cl P w K mg base 46 "check_parts" 4 (Lw.F_check_parts 40) []) (c_size_of : Cl P w K mg base 42 "size_of" 1 (Lw.F_size_of 40) []) (e_BadCondition : Er P w K mg base 2 "BadCondition") (g_DEPTH_MOST : ∃ u, mg "DEPTH_MOST" = some u ∧ RelV (.int 6) u) (g_NODES_MOST : ∃ u, mg "NODES_MOST" = some u ∧ RelV (.int 20) u) : FnOk P w K mg base (L2.CX P w) 47 f fd [(PySem.Str.ofString "condition"), (PySem.Str.ofString "names"), (PySem.Str.ofString "registers")] (spD K mg 3 F_check_condition) :=
  fn_dn (k := 46) (ks := [0, 1, 2]) (g := G_check_condition) (N := sc_check_conditionN) (ps := [(PySem.Str.ofString "condition"), (PySem.Str.ofString "names"), (PySem.Str.ofString "registers")]) F sc_check_condition 3 3 rfl rfl (fun cdv A outer s H E hr tk hp => by
    have hu := hr.units
    have hu5 := hr.units5
    exact (ss_cons (s_drop (d_call c_check_parts hr tk (pa_c (p_b (pv 0)) (pa_c (p_b (pv 1)) (pa_c (p_b (pv 2)) (pa_c (p_v (d_g (by rfl) g_DEPTH_MOST (fun _ => .int _))) pa_n))))))
  (ss_one (s_if (c_cmp (o_gt hu) n_gt (p_v (d_call c_size_of hr tk (pa_c (p_b (pv 0)) pa_n))) (p_v (d_g (by rfl) g_NODES_MOST (fun _ => .int _))) (nomark _))
    (ss_one (s_raise e_BadCondition hr tk (d_var (pv 0))))
    ss_nil))))
set_option maxHeartbeats 4000000 in
theorem ok_is_text {f : Addr} {fd : FuncData} (F : Fun K "is_text" "is_text" s_is_text f fd) (g_LETTERS : ∃ u, mg "LETTERS" = some u ∧ RelV (.str (PySem.Str.ofString "abcdefghijklmnopqrstuvwxyz")) u) (m_all : mg "all" = none) (m_isinstance : mg "isinstance" = none) (m_str : mg "str" = none) : FnOk P w K mg base (L2.CX P w) 1 f fd [(PySem.Str.ofString "value")] (spD K mg 1 F_is_text) :=
  fn_dn (k := 0) (ks := [0]) (g := G_is_text) (N := sc_is_textN) (ps := [(PySem.Str.ofString "value")]) F sc_is_text 1 2 rfl rfl (fun cdv A outer s H E hr tk hp => by
    have hu := hr.units
    have hu5 := hr.units5
    exact (ss_one (s_ret (d_and (d_isi rfl m_isinstance rfl m_str bt_str bt_isinstance (p_b (pv 0))) (d_one (d_cb (cr_all rfl) n_all rfl m_all bt_all (pa_c (p_v (d_comp (own := [(PySem.Str.ofString "char", 1)]) rfl sc_is_text.nd (i_seq (d_var (pv 0))) (blkOk_by (N := sc_is_textN) (sc := defScope s_is_text) (by decide +kernel)) (fun _ _ _ _ _ => (pg_name (i := 1) sc_is_text.nd rfl (Or.inl rfl))) (fun _ _ _ _ _ => pts_y) (fun _ _ _ _ _ => (d_cmp (o_in hu5) n_in (p_b (pv 1)) (p_v (d_g (by rfl) g_LETTERS (fun _ => .str _))) (by rfl))) (by decide))) pa_n)))))))
set_option maxHeartbeats 4000000 in
theorem ok_check_source {f : Addr} {fd : FuncData} (F : Fun K "check_source" "check_source" s_check_source f fd) (c_check_name : Cl P w K mg base 4 "check_name" 2 F_check_name []) (c_is_text : Cl P w K mg base 1 "is_text" 1 F_is_text []) (e_BadSource : Er P w K mg base 2 "BadSource") (g_TEXT_MOST : ∃ u, mg "TEXT_MOST" = some u ∧ RelV (.int 8) u) (m_isinstance : mg "isinstance" = none) (m_len : mg "len" = none) (m_tuple : mg "tuple" = none) : FnOk P w K mg base (L2.CX P w) 5 f fd [(PySem.Str.ofString "source"), (PySem.Str.ofString "names")] (spD K mg 2 F_check_source) :=
  fn_dn (k := 4) (ks := [0, 1]) (g := G_check_source) (N := sc_check_sourceN) (ps := [(PySem.Str.ofString "source"), (PySem.Str.ofString "names")]) F sc_check_source 2 4 rfl rfl (fun cdv A outer s H E hr tk hp => by
    have hu := hr.units
    have hu5 := hr.units5
    exact (ss_cons (s_if (c_w (w_or (c_not (c_tst (d_isi rfl m_isinstance rfl m_tuple bt_tuple bt_isinstance (p_b (pv 0))))) (w_one (c_cmp (o_ne hu) n_ne (p_v (d_cb call_len n_len rfl m_len bt_len (pa_c (p_b (pv 0)) pa_n))) (p_v d_int) (nomark _)))))
    (ss_one (s_raise e_BadSource hr tk (d_var (pv 0))))
    ss_nil)
  (ss_cons (s_setT (d_var (pv 0)) (pg_tup rfl (pgs_cons (pg_name (i := 2) sc_check_source.nd rfl (Or.inl rfl)) (pgs_cons (pg_name (i := 3) sc_check_source.nd rfl (Or.inl rfl)) pgs_nil))) (by decide))
  (ss_one (s_if (c_cmp (o_eq hu) n_eq (p_b (pv 2)) (p_v d_str) (nomark _))
    (ss_one (s_drop (d_call c_check_name hr tk (pa_c (p_b (pv 3)) (pa_c (p_b (pv 1)) pa_n)))))
    (ss_one (s_if (c_cmp (o_eq hu) n_eq (p_b (pv 2)) (p_v d_str) (nomark _))
    (ss_one (s_if (c_w (w_or (c_not (c_tst (d_call c_is_text hr tk (pa_c (p_b (pv 3)) pa_n)))) (w_one (c_cmp (o_gt hu) n_gt (p_v (d_cb call_len n_len rfl m_len bt_len (pa_c (p_b (pv 3)) pa_n))) (p_v (d_g (by rfl) g_TEXT_MOST (fun _ => .int _))) (nomark _)))))
    (ss_one (s_raise e_BadSource hr tk (d_var (pv 0))))
    ss_nil))
    (ss_one (s_if (c_w (w_or (c_cmp (o_ne hu) n_ne (p_b (pv 2)) (p_v d_str) (nomark _)) (w_one (c_cmp (o_notin hu5) n_notin (p_b (pv 3)) (p_v (d_tup (is_c d_int (is_c d_int (is_c d_int is_n))))) (by rfl)))))
    (ss_one (s_raise e_BadSource hr tk (d_var (pv 0))))
    ss_nil)))))))))
set_option maxHeartbeats 4000000 in
theorem ok_check_answer {f : Addr} {fd : FuncData} (F : Fun K "check_answer" "check_answer" s_check_answer f fd) (c_check_source : Cl P w K mg base 5 "check_source" 2 F_check_source []) (c_is_name : Cl P w K mg base 1 "is_name" 1 F_is_name []) (e_BadName : Er P w K mg base 2 "BadName") (e_BadRule : Er P w K mg base 2 "BadRule") (g_SOURCES_MOST : ∃ u, mg "SOURCES_MOST" = some u ∧ RelV (.int 4) u) (m_isinstance : mg "isinstance" = none) (m_len : mg "len" = none) (m_tuple : mg "tuple" = none) : FnOk P w K mg base (L2.CX P w) 6 f fd [(PySem.Str.ofString "answer"), (PySem.Str.ofString "names")] (spD K mg 2 F_check_answer) :=
  fn_dn (k := 5) (ks := [0, 1]) (g := G_check_answer) (N := sc_check_answerN) (ps := [(PySem.Str.ofString "answer"), (PySem.Str.ofString "names")]) F sc_check_answer 2 3 rfl rfl (fun cdv A outer s H E hr tk hp => by
    have hu := hr.units
    have hu5 := hr.units5
    exact (ss_cons (s_if (c_w (w_or (c_not (c_tst (d_isi rfl m_isinstance rfl m_tuple bt_tuple bt_isinstance (p_b (pv 0))))) (w_one (c_not (c_chain (o_le hu) n_le (o_le hu) n_le d_int (d_cb call_len n_len rfl m_len bt_len (pa_c (p_b (pv 0)) pa_n)) (d_op o_add n_add (p_v d_int) (p_v (d_g (by rfl) g_SOURCES_MOST (fun _ => .int _)))))))))
    (ss_one (s_raise e_BadRule hr tk d_int))
    ss_nil)
  (ss_cons (s_if (c_not (c_tst (d_call c_is_name hr tk (pa_c (p_v (d_ix (ix_any hu) n_ix (p_b (pv 0)) (p_v d_int) (fun _ _ => rfl))) pa_n))))
    (ss_one (s_raise e_BadName hr tk (d_ix (ix_any hu) n_ix (p_b (pv 0)) (p_v d_int) (fun _ _ => rfl))))
    ss_nil)
  (ss_one (s_for hp rfl (i_seq (d_sl10 (p_b (pv 0)) (p_v d_int))) (pg_name (i := 2) sc_check_answer.nd rfl (Or.inl rfl))
    (ss_one (s_drop (d_call c_check_source hr tk (pa_c (p_b (pv 2)) (pa_c (p_b (pv 1)) pa_n))))) (by decide))))))
set_option maxHeartbeats 4000000 in
theorem ok_check_line {f : Addr} {fd : FuncData} (F : Fun K "check_line" "check_line" s_check_line f fd) (c_check_source : Cl P w K mg base 5 "check_source" 2 F_check_source []) : FnOk P w K mg base (L2.CX P w) 6 f fd [(PySem.Str.ofString "line"), (PySem.Str.ofString "names")] (spD K mg 2 F_check_line) :=
  fn_dn (k := 5) (ks := [0, 1]) (g := G_check_line) (N := sc_check_lineN) (ps := [(PySem.Str.ofString "line"), (PySem.Str.ofString "names")]) F sc_check_line 2 2 rfl rfl (fun cdv A outer s H E hr tk hp => by
    have hu := hr.units
    have hu5 := hr.units5
    exact (ss_one (s_if (c_cmp (o_notin hu5) n_notin (p_b (pv 0)) (p_v (d_tup (is_c (d_tup (is_c d_str is_n)) (is_c (d_tup (is_c d_str is_n)) is_n)))) (by rfl))
    (ss_one (s_drop (d_call c_check_source hr tk (pa_c (p_b (pv 0)) (pa_c (p_b (pv 1)) pa_n)))))
    ss_nil)))
set_option maxHeartbeats 4000000 in
theorem ok_value_names {f : Addr} {fd : FuncData} (F : Fun K "value_names" "value_names" s_value_names f fd) (e_UnknownRequest : Er P w K mg base 2 "UnknownRequest") (m_list : mg "list" = none) : FnOk P w K mg base (L2.CX P w) 4 f fd [(PySem.Str.ofString "requests"), (PySem.Str.ofString "name")] (spD K mg 2 F_value_names) :=
  fn_dn (k := 3) (ks := [0, 1]) (g := G_value_names) (N := sc_value_namesN) (ps := [(PySem.Str.ofString "requests"), (PySem.Str.ofString "name")]) F sc_value_names 2 3 rfl rfl (fun cdv A outer s H E hr tk hp => by
    have hu := hr.units
    have hu5 := hr.units5
    exact (ss_cons (s_for hp rfl (i_seq (d_var (pv 0))) (pg_name (i := 2) sc_value_names.nd rfl (Or.inl rfl))
    (ss_one (s_if (c_cmp (o_eq hu) n_eq (p_v (d_ix (ix_any hu) n_ix (p_b (pv 2)) (p_v d_int) (fun _ _ => rfl))) (p_b (pv 1)) (nomark _))
    (ss_one (s_ret (d_ct (cr_listX rfl) n_listX rfl m_list bt_list (pa_c (p_v (d_sl10 (p_b (pv 2)) (p_v d_int))) pa_n))))
    ss_nil)) (by decide))
  (ss_one (s_raise e_UnknownRequest hr tk (d_var (pv 1))))))
set_option maxHeartbeats 4000000 in
theorem ok_check_rule {f : Addr} {fd : FuncData} (F : Fun K "check_rule" "check_rule" s_check_rule f fd) (c_check_answer : Cl P w K mg base 6 "check_answer" 2 F_check_answer []) (c_check_condition : Cl P w K mg base 47 "check_condition" 3 F_check_condition []) (c_check_line : Cl P w K mg base 6 "check_line" 2 F_check_line []) (c_value_names : Cl P w K mg base 4 "value_names" 2 F_value_names []) (e_BadRule : Er P w K mg base 2 "BadRule") (e_UnknownStation : Er P w K mg base 2 "UnknownStation") (m_isinstance : mg "isinstance" = none) (m_len : mg "len" = none) (m_tuple : mg "tuple" = none) : FnOk P w K mg base (L2.CX P w) 48 f fd [(PySem.Str.ofString "rule"), (PySem.Str.ofString "stations"), (PySem.Str.ofString "registers"), (PySem.Str.ofString "requests")] (spD K mg 4 F_check_rule) :=
  fn_dn (k := 47) (ks := [0, 1, 2, 3]) (g := G_check_rule) (N := sc_check_ruleN) (ps := [(PySem.Str.ofString "rule"), (PySem.Str.ofString "stations"), (PySem.Str.ofString "registers"), (PySem.Str.ofString "requests")]) F sc_check_rule 4 12 rfl rfl (fun cdv A outer s H E hr tk hp => by
    have hu := hr.units
    have hu5 := hr.units5
    exact (ss_cons (s_if (c_w (w_or (c_not (c_tst (d_isi rfl m_isinstance rfl m_tuple bt_tuple bt_isinstance (p_b (pv 0))))) (w_one (c_cmp (o_ne hu) n_ne (p_v (d_cb call_len n_len rfl m_len bt_len (pa_c (p_b (pv 0)) pa_n))) (p_v d_int) (nomark _)))))
    (ss_one (s_raise e_BadRule hr tk d_non))
    ss_nil)
  (ss_cons (s_setT (d_var (pv 0)) (pg_tup rfl (pgs_cons (pg_name (i := 4) sc_check_rule.nd rfl (Or.inl rfl)) (pgs_cons (pg_name (i := 5) sc_check_rule.nd rfl (Or.inl rfl)) (pgs_cons (pg_name (i := 6) sc_check_rule.nd rfl (Or.inl rfl)) (pgs_cons (pg_name (i := 7) sc_check_rule.nd rfl (Or.inl rfl)) (pgs_cons (pg_name (i := 8) sc_check_rule.nd rfl (Or.inl rfl)) (pgs_cons (pg_name (i := 9) sc_check_rule.nd rfl (Or.inl rfl)) pgs_nil))))))) (by decide))
  (ss_cons (s_if (c_w (w_and (c_cmp o_isnot n_isnot (p_b (pv 4)) (p_v d_non) (nomark _)) (w_one (c_cmp (o_notin hu5) n_notin (p_b (pv 4)) (p_b (pv 1)) (by rfl)))))
    (ss_one (s_raise e_UnknownStation hr tk (d_var (pv 4))))
    ss_nil)
  (ss_cons (s_set (i := 10) sc_check_rule.nd rfl (Or.inl rfl) (d_op o_add n_add (p_v (d_op o_add n_add (p_b (pv 2)) (p_v (d_call c_value_names hr tk (pa_c (p_b (pv 3)) (pa_c (p_b (pv 5)) pa_n)))))) (p_v (d_lst (is_c d_str is_n)))))
  (ss_cons (s_if (c_w (w_and (c_cmp (o_eq hu) n_eq (p_b (pv 5)) (p_v d_str) (nomark _)) (w_one (c_cmp o_isnot n_isnot (p_b (pv 4)) (p_v d_non) (nomark _)))))
    (ss_one (s_raise e_BadRule hr tk d_int))
    ss_nil)
  (ss_cons (s_drop (d_call c_check_condition hr tk (pa_c (p_b (pv 6)) (pa_c (p_b (pv 10)) (pa_c (p_b (pv 2)) pa_n)))))
  (ss_cons (s_drop (d_call c_check_answer hr tk (pa_c (p_b (pv 7)) (pa_c (p_b (pv 10)) pa_n))))
  (ss_cons (s_if (c_w (w_or (c_not (c_tst (d_isi rfl m_isinstance rfl m_tuple bt_tuple bt_isinstance (p_b (pv 8))))) (w_one (c_cmp (o_ne hu) n_ne (p_v (d_cb call_len n_len rfl m_len bt_len (pa_c (p_b (pv 8)) pa_n))) (p_v (d_cb call_len n_len rfl m_len bt_len (pa_c (p_b (pv 2)) pa_n))) (nomark _)))))
    (ss_one (s_raise e_BadRule hr tk d_int))
    ss_nil)
  (ss_cons (s_for hp rfl (i_seq (d_var (pv 8))) (pg_name (i := 11) sc_check_rule.nd rfl (Or.inl rfl))
    (ss_one (s_drop (d_call c_check_line hr tk (pa_c (p_b (pv 11)) (pa_c (p_b (pv 10)) pa_n))))) (by decide))
  (ss_one (s_if (c_cmp (o_notin hu5) n_notin (p_b (pv 9)) (p_b (pv 1)) (by rfl))
    (ss_one (s_raise e_UnknownStation hr tk (d_var (pv 9))))
    ss_nil))))))))))))
set_option maxHeartbeats 4000000 in
theorem ok_Service_m_init {f : Addr} {fd : FuncData} (F : Fun K "__init__" "Service.__init__" s_Service_m_init f fd) (c_check_kinds : Cl P w K mg base 4 "check_kinds" 2 F_check_kinds []) (c_check_names : Cl P w K mg base 4 "check_names" 1 F_check_names []) (c_check_rule : Cl P w K mg base 48 "check_rule" 4 F_check_rule []) (e_BadCount : Er P w K mg base 2 "BadCount") (e_BadName : Er P w K mg base 2 "BadName") (f_Service : FldC K "Service" [(PySem.Str.ofString "_registers"), (PySem.Str.ofString "_requests"), (PySem.Str.ofString "_rules"), (PySem.Str.ofString "_stations")]) (g_REGISTERS_MOST : ∃ u, mg "REGISTERS_MOST" = some u ∧ RelV (.int 3) u) (g_RULES_MOST : ∃ u, mg "RULES_MOST" = some u ∧ RelV (.int 40) u) (g_STATIONS_MOST : ∃ u, mg "STATIONS_MOST" = some u ∧ RelV (.int 6) u) (m_len : mg "len" = none) (m_list : mg "list" = none) : FnOk P w K mg base (L2.CX P w) 49 f fd [(PySem.Str.ofString "self"), (PySem.Str.ofString "stations"), (PySem.Str.ofString "registers"), (PySem.Str.ofString "requests"), (PySem.Str.ofString "rules")] (spD K mg 5 F_Service_m_init) :=
  fn_dn (k := 48) (ks := [0, 1, 2, 3, 4]) (g := G_Service_m_init) (N := sc_Service_m_initN) (ps := [(PySem.Str.ofString "self"), (PySem.Str.ofString "stations"), (PySem.Str.ofString "registers"), (PySem.Str.ofString "requests"), (PySem.Str.ofString "rules")]) F sc_Service_m_init 5 6 rfl rfl (fun cdv A outer s H E hr tk hp => by
    have hu := hr.units
    have hu5 := hr.units5
    exact (ss_cons (s_if (c_not (c_chain (o_le hu) n_le (o_le hu) n_le d_int (d_cb call_len n_len rfl m_len bt_len (pa_c (p_b (pv 1)) pa_n)) (d_g (by rfl) g_STATIONS_MOST (fun _ => .int _))))
    (ss_one (s_raise e_BadCount hr tk d_str))
    ss_nil)
  (ss_cons (s_drop (d_call c_check_names hr tk (pa_c (p_v (d_ct (cr_listX rfl) n_listX rfl m_list bt_list (pa_c (p_b (pv 1)) pa_n))) pa_n)))
  (ss_cons (s_if (c_cmp (o_gt hu) n_gt (p_v (d_cb call_len n_len rfl m_len bt_len (pa_c (p_b (pv 2)) pa_n))) (p_v (d_g (by rfl) g_REGISTERS_MOST (fun _ => .int _))) (nomark _))
    (ss_one (s_raise e_BadCount hr tk d_str))
    ss_nil)
  (ss_cons (s_drop (d_call c_check_names hr tk (pa_c (p_v (d_ct (cr_listX rfl) n_listX rfl m_list bt_list (pa_c (p_b (pv 2)) pa_n))) pa_n)))
  (ss_cons (s_if (c_cmp (o_in hu5) n_in (p_v d_str) (p_b (pv 2)) (by rfl))
    (ss_one (s_raise e_BadName hr tk d_str))
    ss_nil)
  (ss_cons (s_drop (d_call c_check_kinds hr tk (pa_c (p_v (d_ct (cr_listX rfl) n_listX rfl m_list bt_list (pa_c (p_b (pv 3)) pa_n))) (pa_c (p_v (d_ct (cr_listX rfl) n_listX rfl m_list bt_list (pa_c (p_b (pv 2)) pa_n))) pa_n))))
  (ss_cons (s_if (c_cmp (o_gt hu) n_gt (p_v (d_cb call_len n_len rfl m_len bt_len (pa_c (p_b (pv 4)) pa_n))) (p_v (d_g (by rfl) g_RULES_MOST (fun _ => .int _))) (nomark _))
    (ss_one (s_raise e_BadCount hr tk d_str))
    ss_nil)
  (ss_cons (s_for hp rfl (i_seq (d_var (pv 4))) (pg_name (i := 5) sc_Service_m_init.nd rfl (Or.inl rfl))
    (ss_one (s_drop (d_call c_check_rule hr tk (pa_c (p_b (pv 5)) (pa_c (p_v (d_ct (cr_listX rfl) n_listX rfl m_list bt_list (pa_c (p_b (pv 1)) pa_n))) (pa_c (p_v (d_ct (cr_listX rfl) n_listX rfl m_list bt_list (pa_c (p_b (pv 2)) pa_n))) (pa_c (p_v (d_ct (cr_listX rfl) n_listX rfl m_list bt_list (pa_c (p_b (pv 3)) pa_n))) pa_n))))))) (by decide))
  (ss_cons (s_setF f_Service (by decide) (pv 0) (d_ct (cr_listX rfl) n_listX rfl m_list bt_list (pa_c (p_b (pv 1)) pa_n)))
  (ss_cons (s_setF f_Service (by decide) (pv 0) (d_ct (cr_listX rfl) n_listX rfl m_list bt_list (pa_c (p_b (pv 2)) pa_n)))
  (ss_cons (s_setF f_Service (by decide) (pv 0) (d_ct (cr_listX rfl) n_listX rfl m_list bt_list (pa_c (p_b (pv 3)) pa_n)))
  (ss_one (s_setF f_Service (by decide) (pv 0) (d_ct (cr_listX rfl) n_listX rfl m_list bt_list (pa_c (p_b (pv 4)) pa_n))))))))))))))))
set_option maxHeartbeats 4000000 in
theorem ok__law_text_of {f : Addr} {fd : FuncData} (F : Fun K "_law_text_of" "_law_text_of" s__law_text_of f fd)  : FnOk P w K mg base (L2.CX P w) 1 f fd [(PySem.Str.ofString "_law_lines_here")] (spD K mg 1 F__law_text_of) :=
  fn_dn (k := 0) (ks := [0]) (g := G__law_text_of) (N := sc__law_text_ofN) (ps := [(PySem.Str.ofString "_law_lines_here")]) F sc__law_text_of 1 2 rfl rfl (fun cdv A outer s H E hr tk hp => by
    have hu := hr.units
    have hu5 := hr.units5
    exact (ss_one (s_ret (d_m1 PySem.F.slot_str_join PySem.F.type_str_join mt_join n_join (p_v d_str) (p_v (d_comp (own := [(PySem.Str.ofString "_law_line_here", 1)]) rfl sc__law_text_of.nd (i_seq (d_var (pv 0))) (blkOk_by (N := sc__law_text_ofN) (sc := defScope s__law_text_of) (by decide +kernel)) (fun _ _ _ _ _ => (pg_name (i := 1) sc__law_text_of.nd rfl (Or.inl rfl))) (fun _ _ _ _ _ => pts_y) (fun _ _ _ _ _ => (d_m1 PySem.F.slot_str_join PySem.F.type_str_join mt_join n_join (p_v d_str) (p_b (pv 1)))) (by decide)))))))
set_option maxHeartbeats 8000000 in
theorem ok__law_words_of_condition {a__law_words_of_condition : Addr} {d__law_words_of_condition : FuncData} (F__law_words_of_condition : Fun K "_law_words_of_condition" "_law_words_of_condition" s__law_words_of_condition a__law_words_of_condition d__law_words_of_condition) (hm__law_words_of_condition : mg "_law_words_of_condition" = some (.ref a__law_words_of_condition)) (hk__law_words_of_condition : PySem.W.keepIn K (.ref a__law_words_of_condition) = true) (m_len : mg "len" = none) (m_list : mg "list" = none) (m_str : mg "str" = none) : ∀ n : Nat, FnOk P w K mg base (L2.CX P w) (1 + n) a__law_words_of_condition d__law_words_of_condition [(PySem.Str.ofString "_law_condition_here")] (spD K mg 1 (Lw.F__law_words_of_condition n))
  | 0 => fn_none rfl
  | n + 1 => by
    have ih := ok__law_words_of_condition F__law_words_of_condition hm__law_words_of_condition hk__law_words_of_condition m_len m_list m_str n
    have c__law_words_of_condition : Cl P w K mg base (1 + n) "_law_words_of_condition" 1 (Lw.F__law_words_of_condition n) [] := cl_mk (ih) hm__law_words_of_condition hk__law_words_of_condition (F__law_words_of_condition.binds fun _ _ _ _ _ _ us hl => match us, hl with | [_], _ => rfl)
    exact fn_dn (k := 1 + n) (ks := [0]) (g := G__law_words_of_condition (Lw.F__law_words_of_condition n)) (N := sc__law_words_of_conditionN) (ps := [(PySem.Str.ofString "_law_condition_here")]) F__law_words_of_condition sc__law_words_of_condition 1 3 rfl rfl (fun cdv A outer s H E hr tk hp => by
      have hu := hr.units
      have hu5 := hr.units5
      exact (ss_cons (s_if (c_cmp (o_eq hu) n_eq (p_v (d_ix (ix_any hu) n_ix (p_b (pv 0)) (p_v d_int) (fun _ _ => rfl))) (p_v d_str) (nomark _))
    (ss_one (s_ret (d_lst (hn := by simp) (is_c d_str (is_c (d_ix (ix_any hu) n_ix (p_b (pv 0)) (p_v d_int) (fun _ _ => rfl)) (is_c (d_op o_add n_add (p_v d_str) (p_v (d_ix (ix_any hu) n_ix (p_b (pv 0)) (p_v d_int) (fun _ _ => rfl)))) is_n))))))
    ss_nil)
  (ss_cons (s_if (c_w (w_or (c_cmp (o_eq hu) n_eq (p_v (d_ix (ix_any hu) n_ix (p_b (pv 0)) (p_v d_int) (fun _ _ => rfl))) (p_v d_str) (nomark _)) (w_one (c_cmp (o_eq hu) n_eq (p_v (d_ix (ix_any hu) n_ix (p_b (pv 0)) (p_v d_int) (fun _ _ => rfl))) (p_v d_str) (nomark _)))))
    (ss_cons (s_set (i := 1) sc__law_words_of_condition.nd rfl (Or.inl rfl) (d_lst (hn := by simp) (is_c (d_ix (ix_any hu) n_ix (p_b (pv 0)) (p_v d_int) (fun _ _ => rfl)) (is_c (d_ct call_str_int n_str1 rfl m_str bt_str (pa_c (p_v (d_op op_sub n_sub (p_v (d_cb call_len n_len rfl m_len bt_len (pa_c (p_b (pv 0)) pa_n))) (p_v d_int))) pa_n)) is_n))))
  (ss_cons (s_for hp rfl (i_seq (d_sl10 (p_b (pv 0)) (p_v d_int))) (pg_name (i := 2) sc__law_words_of_condition.nd rfl (Or.inl rfl))
    (ss_one (s_set (i := 1) sc__law_words_of_condition.nd rfl (Or.inl rfl) (d_op o_add n_add (p_b (pv 1)) (p_v (d_call (hk := by omega) c__law_words_of_condition hr tk (pa_c (p_b (pv 2)) pa_n)))))) (by decide))
  (ss_one (s_ret (d_move (pv 1))))))
    ss_nil)
  (ss_cons (s_if (c_cmp (o_eq hu) n_eq (p_v (d_ix (ix_any hu) n_ix (p_b (pv 0)) (p_v d_int) (fun _ _ => rfl))) (p_v d_str) (nomark _))
    (ss_one (s_ret (d_op o_add n_add (p_v (d_lst (hn := by simp) (is_c d_str is_n))) (p_v (d_call (hk := by omega) c__law_words_of_condition hr tk (pa_c (p_v (d_ix (ix_any hu) n_ix (p_b (pv 0)) (p_v d_int) (fun _ _ => rfl))) pa_n))))))
    ss_nil)
  (ss_one (s_ret (d_ct (cr_listX rfl) n_listX rfl m_list bt_list (pa_c (p_b (pv 0)) pa_n))))))))
set_option maxHeartbeats 4000000 in
theorem ok__law_words_of_line {f : Addr} {fd : FuncData} (F : Fun K "_law_words_of_line" "_law_words_of_line" s__law_words_of_line f fd) (m_list : mg "list" = none) : FnOk P w K mg base (L2.CX P w) 1 f fd [(PySem.Str.ofString "_law_line_here")] (spD K mg 1 F__law_words_of_line) :=
  fn_dn (k := 0) (ks := [0]) (g := G__law_words_of_line) (N := sc__law_words_of_lineN) (ps := [(PySem.Str.ofString "_law_line_here")]) F sc__law_words_of_line 1 1 rfl rfl (fun cdv A outer s H E hr tk hp => by
    have hu := hr.units
    have hu5 := hr.units5
    exact (ss_cons (s_if (c_cmp (o_eq hu) n_eq (p_v (d_ix (ix_any hu) n_ix (p_b (pv 0)) (p_v d_int) (fun _ _ => rfl))) (p_v d_str) (nomark _))
    (ss_one (s_ret (d_lst (is_c d_str (is_c (d_op o_add n_add (p_v d_str) (p_v (d_ix (ix_any hu) n_ix (p_b (pv 0)) (p_v d_int) (fun _ _ => rfl)))) is_n)))))
    ss_nil)
  (ss_cons (s_if (c_cmp (o_eq hu) n_eq (p_v (d_ix (ix_any hu) n_ix (p_b (pv 0)) (p_v d_int) (fun _ _ => rfl))) (p_v d_str) (nomark _))
    (ss_one (s_ret (d_lst (is_c d_str (is_c (d_ix (ix_any hu) n_ix (p_v d_str) (p_v (d_ix (ix_any hu) n_ix (p_b (pv 0)) (p_v d_int) (fun _ _ => rfl))) (fun _ _ => rfl)) is_n)))))
    ss_nil)
  (ss_one (s_ret (d_ct (cr_listX rfl) n_listX rfl m_list bt_list (pa_c (p_b (pv 0)) pa_n)))))))
set_option maxHeartbeats 4000000 in
theorem ok__law_line_of_rule {f : Addr} {fd : FuncData} (F : Fun K "_law_line_of_rule" "_law_line_of_rule" s__law_line_of_rule f fd) (c__law_words_of_condition : Cl P w K mg base 41 "_law_words_of_condition" 1 (Lw.F__law_words_of_condition 40) []) (c__law_words_of_line : Cl P w K mg base 1 "_law_words_of_line" 1 F__law_words_of_line []) (m_len : mg "len" = none) (m_str : mg "str" = none) : FnOk P w K mg base (L2.CX P w) 42 f fd [(PySem.Str.ofString "_law_rule_here")] (spD K mg 1 F__law_line_of_rule) :=
  fn_dn (k := 41) (ks := [0]) (g := G__law_line_of_rule) (N := sc__law_line_of_ruleN) (ps := [(PySem.Str.ofString "_law_rule_here")]) F sc__law_line_of_rule 1 4 rfl rfl (fun cdv A outer s H E hr tk hp => by
    have hu := hr.units
    have hu5 := hr.units5
    exact (ss_cons (s_set (i := 1) sc__law_line_of_rule.nd rfl (Or.inl rfl) (d_lst (is_c d_str (is_c d_str (is_c (d_ix (ix_any hu) n_ix (p_b (pv 0)) (p_v d_int) (fun _ _ => rfl)) is_n)))))
  (ss_cons (s_if (c_cmp o_isnot n_isnot (p_v (d_ix (ix_any hu) n_ix (p_b (pv 0)) (p_v d_int) (fun _ _ => rfl))) (p_v d_non) (nomark _))
    (ss_one (s_setIx (pv 1) d_int (d_ix (ix_any hu) n_ix (p_b (pv 0)) (p_v d_int) (fun _ _ => rfl))))
    ss_nil)
  (ss_cons (s_set (i := 1) sc__law_line_of_rule.nd rfl (Or.inl rfl) (d_op o_add n_add (p_v (d_op o_add n_add (p_b (pv 1)) (p_v (d_call c__law_words_of_condition hr tk (pa_c (p_v (d_ix (ix_any hu) n_ix (p_b (pv 0)) (p_v d_int) (fun _ _ => rfl))) pa_n))))) (p_v (d_lst (is_c d_str (is_c (d_ix (ix_any hu) n_ix (p_v (d_ix (ix_any hu) n_ix (p_b (pv 0)) (p_v d_int) (fun _ _ => rfl))) (p_v d_int) (fun _ _ => rfl)) (is_c (d_ct call_str_int n_str1 rfl m_str bt_str (pa_c (p_v (d_op op_sub n_sub (p_v (d_cb call_len n_len rfl m_len bt_len (pa_c (p_v (d_ix (ix_any hu) n_ix (p_b (pv 0)) (p_v d_int) (fun _ _ => rfl))) pa_n))) (p_v d_int))) pa_n)) is_n)))))))
  (ss_cons (s_for hp rfl (i_seq (d_sl10 (p_v (d_ix (ix_any hu) n_ix (p_b (pv 0)) (p_v d_int) (fun _ _ => rfl))) (p_v d_int))) (pg_name (i := 2) sc__law_line_of_rule.nd rfl (Or.inl rfl))
    (ss_one (s_set (i := 1) sc__law_line_of_rule.nd rfl (Or.inl rfl) (d_op o_add n_add (p_b (pv 1)) (p_v (d_call c__law_words_of_line hr tk (pa_c (p_b (pv 2)) pa_n)))))) (by decide))
  (ss_cons (s_drop (d_mut1 (pv 1) PySem.F.slot_list_append PySem.F.type_list_append mt_append u_app d_str))
  (ss_cons (s_for hp rfl (i_seq (d_ix (ix_any hu) n_ix (p_b (pv 0)) (p_v d_int) (fun _ _ => rfl))) (pg_name (i := 3) sc__law_line_of_rule.nd rfl (Or.inl rfl))
    (ss_one (s_set (i := 1) sc__law_line_of_rule.nd rfl (Or.inl rfl) (d_op o_add n_add (p_b (pv 1)) (p_v (d_call c__law_words_of_line hr tk (pa_c (p_b (pv 3)) pa_n)))))) (by decide))
  (ss_one (s_ret (d_op o_add n_add (p_b (pv 1)) (p_v (d_lst (is_c d_str (is_c (d_ix (ix_any hu) n_ix (p_b (pv 0)) (p_v d_int) (fun _ _ => rfl)) is_n))))))))))))))
set_option maxHeartbeats 4000000 in
theorem ok__law_lines {f : Addr} {fd : FuncData} (F : Fun K "_law_lines" "_law_lines" s__law_lines f fd) (c__law_line_of_rule : Cl P w K mg base 42 "_law_line_of_rule" 1 F__law_line_of_rule []) (m_list : mg "list" = none) : FnOk P w K mg base (L2.CX P w) 43 f fd [(PySem.Str.ofString "_law_service_here")] (spD K mg 1 F__law_lines) :=
  fn_dn (k := 42) (ks := [0]) (g := G__law_lines) (N := sc__law_linesN) (ps := [(PySem.Str.ofString "_law_service_here")]) F sc__law_lines 1 4 rfl rfl (fun cdv A outer s H E hr tk hp => by
    have hu := hr.units
    have hu5 := hr.units5
    exact (ss_cons (s_set (i := 1) sc__law_lines.nd rfl (Or.inl rfl) (d_lst (is_c (d_op o_add n_add (p_v (d_lst (is_c d_str is_n))) (p_v (d_ix (ix_any hu) n_ix (p_b (pv 0)) (p_v d_int) (fun _ _ => rfl)))) (is_c (d_op o_add n_add (p_v (d_lst (is_c d_str is_n))) (p_v (d_ix (ix_any hu) n_ix (p_b (pv 0)) (p_v d_int) (fun _ _ => rfl)))) is_n))))
  (ss_cons (s_set (i := 1) sc__law_lines.nd rfl (Or.inl rfl) (d_op o_add n_add (p_b (pv 1)) (p_v (d_comp (own := [(PySem.Str.ofString "_law_kind", 2)]) rfl sc__law_lines.nd (i_seq (d_ix (ix_any hu) n_ix (p_b (pv 0)) (p_v d_int) (fun _ _ => rfl))) (blkOk_by (N := sc__law_linesN) (sc := defScope s__law_lines) (by decide +kernel)) (fun _ _ _ _ _ => (pg_name (i := 2) sc__law_lines.nd rfl (Or.inl rfl))) (fun _ _ _ _ _ => pts_y) (fun _ _ _ _ _ => (d_op o_add n_add (p_v (d_lst (is_c d_str is_n))) (p_v (d_ct (cr_listX rfl) n_listX rfl m_list bt_list (pa_c (p_b (pv 2)) pa_n))))) (by decide)))))
  (ss_one (s_ret (d_op o_add n_add (p_b (pv 1)) (p_v (d_comp (own := [(PySem.Str.ofString "_law_rule_here", 3)]) rfl sc__law_lines.nd (i_seq (d_ix (ix_any hu) n_ix (p_b (pv 0)) (p_v d_int) (fun _ _ => rfl))) (blkOk_by (N := sc__law_linesN) (sc := defScope s__law_lines) (by decide +kernel)) (fun _ _ _ _ _ => (pg_name (i := 3) sc__law_lines.nd rfl (Or.inl rfl))) (fun _ _ _ _ _ => pts_y) (fun _ _ _ _ _ => (d_call c__law_line_of_rule hr takes0 (pa_c (p_b (pv 3)) pa_n))) (by decide)))))))))
set_option maxHeartbeats 8000000 in
theorem ok_format_condition {a_format_condition : Addr} {d_format_condition : FuncData} (F_format_condition : Fun K "format_condition" "format_condition" s_format_condition a_format_condition d_format_condition) (hm_format_condition : mg "format_condition" = some (.ref a_format_condition)) (hk_format_condition : PySem.W.keepIn K (.ref a_format_condition) = true) (m_len : mg "len" = none) (m_list : mg "list" = none) (m_str : mg "str" = none) : ∀ n : Nat, FnOk P w K mg base (L2.CX P w) (1 + n) a_format_condition d_format_condition [(PySem.Str.ofString "condition")] (spD K mg 1 (Lw.F_format_condition n))
  | 0 => fn_none rfl
  | n + 1 => by
    have ih := ok_format_condition F_format_condition hm_format_condition hk_format_condition m_len m_list m_str n
    have c_format_condition : Cl P w K mg base (1 + n) "format_condition" 1 (Lw.F_format_condition n) [] := cl_mk (ih) hm_format_condition hk_format_condition (F_format_condition.binds fun _ _ _ _ _ _ us hl => match us, hl with | [_], _ => rfl)
    exact fn_dn (k := 1 + n) (ks := [0]) (g := G_format_condition (Lw.F_format_condition n)) (N := sc_format_conditionN) (ps := [(PySem.Str.ofString "condition")]) F_format_condition sc_format_condition 1 4 rfl rfl (fun cdv A outer s H E hr tk hp => by
      have hu := hr.units
      have hu5 := hr.units5
      exact (ss_cons (s_set (i := 1) sc_format_condition.nd rfl (Or.inl rfl) (d_ix (ix_any hu) n_ix (p_b (pv 0)) (p_v d_int) (fun _ _ => rfl)))
  (ss_cons (s_if (c_cmp (o_eq hu) n_eq (p_b (pv 1)) (p_v d_str) (nomark _))
    (ss_one (s_ret (d_lst (hn := by simp) (is_c (d_var (pv 1)) (is_c (d_ix (ix_any hu) n_ix (p_b (pv 0)) (p_v d_int) (fun _ _ => rfl)) (is_c (d_op o_add n_add (p_v d_str) (p_v (d_ix (ix_any hu) n_ix (p_b (pv 0)) (p_v d_int) (fun _ _ => rfl)))) is_n))))))
    ss_nil)
  (ss_cons (s_if (c_cmp (o_in hu5) n_in (p_b (pv 1)) (p_v (d_tup (hn := by simp) (is_c d_str (is_c d_str is_n)))) (by rfl))
    (ss_one (s_ret (d_ct (cr_listX rfl) n_listX rfl m_list bt_list (pa_c (p_b (pv 0)) pa_n))))
    ss_nil)
  (ss_cons (s_set (i := 2) sc_format_condition.nd rfl (Or.inl rfl) (d_lst (hn := by simp) (is_c (d_var (pv 1)) is_n)))
  (ss_cons (s_if (c_cmp (o_in hu5) n_in (p_b (pv 1)) (p_v (d_tup (hn := by simp) (is_c d_str (is_c d_str is_n)))) (by rfl))
    (ss_one (s_drop (d_mut1 (pv 2) PySem.F.slot_list_append PySem.F.type_list_append mt_append u_app (d_ct call_str_int n_str1 rfl m_str bt_str (pa_c (p_v (d_op op_sub n_sub (p_v (d_cb call_len n_len rfl m_len bt_len (pa_c (p_b (pv 0)) pa_n))) (p_v d_int))) pa_n)))))
    ss_nil)
  (ss_cons (s_for hp rfl (i_seq (d_sl10 (p_b (pv 0)) (p_v d_int))) (pg_name (i := 3) sc_format_condition.nd rfl (Or.inl rfl))
    (ss_one (s_drop (d_mut1 (pv 2) PySem.F.slot_list_extend PySem.F.type_list_extend mt_extend u_ext (d_call (hk := by omega) c_format_condition hr tk (pa_c (p_b (pv 3)) pa_n))))) (by decide))
  (ss_one (s_ret (d_move (pv 2)))))))))))
set_option maxHeartbeats 4000000 in
theorem ok_format_line {f : Addr} {fd : FuncData} (F : Fun K "format_line" "format_line" s_format_line f fd) (m_str : mg "str" = none) : FnOk P w K mg base (L2.CX P w) 1 f fd [(PySem.Str.ofString "line")] (spD K mg 1 F_format_line) :=
  fn_dn (k := 0) (ks := [0]) (g := G_format_line) (N := sc_format_lineN) (ps := [(PySem.Str.ofString "line")]) F sc_format_line 1 2 rfl rfl (fun cdv A outer s H E hr tk hp => by
    have hu := hr.units
    have hu5 := hr.units5
    exact (ss_cons (s_if (c_cmp (o_eq hu) n_eq (p_v (d_ix (ix_any hu) n_ix (p_b (pv 0)) (p_v d_int) (fun _ _ => rfl))) (p_v d_str) (nomark _))
    (ss_one (s_ret (d_lst (is_c d_str (is_c (d_op o_add n_add (p_v d_str) (p_v (d_ix (ix_any hu) n_ix (p_b (pv 0)) (p_v d_int) (fun _ _ => rfl)))) is_n)))))
    ss_nil)
  (ss_one (s_ret (d_comp (own := [(PySem.Str.ofString "word", 1)]) rfl sc_format_line.nd (i_seq (d_var (pv 0))) (blkOk_by (N := sc_format_lineN) (sc := defScope s_format_line) (by decide +kernel)) (fun _ _ _ _ _ => (pg_name (i := 1) sc_format_line.nd rfl (Or.inl rfl))) (fun _ _ _ _ _ => pts_y) (fun _ _ _ _ _ => (d_ct call_str2 n_str2 rfl m_str bt_str (pa_c (p_b (pv 1)) pa_n))) (by decide))))))
set_option maxHeartbeats 4000000 in
theorem ok_format_rule {f : Addr} {fd : FuncData} (F : Fun K "format_rule" "format_rule" s_format_rule f fd) (c_format_condition : Cl P w K mg base 41 "format_condition" 1 (Lw.F_format_condition 40) []) (c_format_line : Cl P w K mg base 1 "format_line" 1 F_format_line []) (m_len : mg "len" = none) (m_str : mg "str" = none) : FnOk P w K mg base (L2.CX P w) 42 f fd [(PySem.Str.ofString "rule")] (spD K mg 1 F_format_rule) :=
  fn_dn (k := 41) (ks := [0]) (g := G_format_rule) (N := sc_format_ruleN) (ps := [(PySem.Str.ofString "rule")]) F sc_format_rule 1 5 rfl rfl (fun cdv A outer s H E hr tk hp => by
    have hu := hr.units
    have hu5 := hr.units5
    exact (ss_cons (s_set (i := 1) sc_format_rule.nd rfl (Or.inl rfl) (d_ix (ix_any hu) n_ix (p_b (pv 0)) (p_v d_int) (fun _ _ => rfl)))
  (ss_cons (s_if (c_cmp o_is n_is (p_b (pv 1)) (p_v d_non) (nomark _))
    (ss_one (s_set (i := 1) sc_format_rule.nd rfl (Or.inl rfl) d_str))
    ss_nil)
  (ss_cons (s_set (i := 2) sc_format_rule.nd rfl (Or.inl rfl) (d_op o_add n_add (p_v (d_lst (is_c d_str (is_c (d_var (pv 1)) (is_c (d_ix (ix_any hu) n_ix (p_b (pv 0)) (p_v d_int) (fun _ _ => rfl)) is_n))))) (p_v (d_call c_format_condition hr tk (pa_c (p_v (d_ix (ix_any hu) n_ix (p_b (pv 0)) (p_v d_int) (fun _ _ => rfl))) pa_n)))))
  (ss_cons (s_drop (d_mut1 (pv 2) PySem.F.slot_list_extend PySem.F.type_list_extend mt_extend u_ext (d_lst (is_c d_str (is_c (d_ix (ix_any hu) n_ix (p_v (d_ix (ix_any hu) n_ix (p_b (pv 0)) (p_v d_int) (fun _ _ => rfl))) (p_v d_int) (fun _ _ => rfl)) (is_c (d_ct call_str_int n_str1 rfl m_str bt_str (pa_c (p_v (d_op op_sub n_sub (p_v (d_cb call_len n_len rfl m_len bt_len (pa_c (p_v (d_ix (ix_any hu) n_ix (p_b (pv 0)) (p_v d_int) (fun _ _ => rfl))) pa_n))) (p_v d_int))) pa_n)) is_n))))))
  (ss_cons (s_for hp rfl (i_seq (d_sl10 (p_v (d_ix (ix_any hu) n_ix (p_b (pv 0)) (p_v d_int) (fun _ _ => rfl))) (p_v d_int))) (pg_name (i := 3) sc_format_rule.nd rfl (Or.inl rfl))
    (ss_one (s_drop (d_mut1 (pv 2) PySem.F.slot_list_extend PySem.F.type_list_extend mt_extend u_ext (d_call c_format_line hr tk (pa_c (p_b (pv 3)) pa_n))))) (by decide))
  (ss_cons (s_drop (d_mut1 (pv 2) PySem.F.slot_list_append PySem.F.type_list_append mt_append u_app d_str))
  (ss_cons (s_for hp rfl (i_seq (d_ix (ix_any hu) n_ix (p_b (pv 0)) (p_v d_int) (fun _ _ => rfl))) (pg_name (i := 4) sc_format_rule.nd rfl (Or.inl rfl))
    (ss_one (s_drop (d_mut1 (pv 2) PySem.F.slot_list_extend PySem.F.type_list_extend mt_extend u_ext (d_call c_format_line hr tk (pa_c (p_b (pv 4)) pa_n))))) (by decide))
  (ss_one (s_ret (d_m1 PySem.F.slot_str_join PySem.F.type_str_join mt_join n_join (p_v d_str) (p_v (d_op o_add n_add (p_b (pv 2)) (p_v (d_lst (is_c d_str (is_c (d_ix (ix_any hu) n_ix (p_b (pv 0)) (p_v d_int) (fun _ _ => rfl)) is_n)))))))))))))))))
set_option maxHeartbeats 4000000 in
theorem ok_Service_p_stations {f : Addr} {fd : FuncData} (F : Fun K "stations" "Service.stations" s_Service_p_stations f fd) (f_Service : FldC K "Service" [(PySem.Str.ofString "_registers"), (PySem.Str.ofString "_requests"), (PySem.Str.ofString "_rules"), (PySem.Str.ofString "_stations")]) (m_list : mg "list" = none) : FnOk P w K mg base (L2.CX P w) 1 f fd [(PySem.Str.ofString "self")] (spD K mg 1 F_Service_p_stations) :=
  fn_dn (k := 0) (ks := [0]) (g := G_Service_p_stations) (N := sc_Service_p_stationsN) (ps := [(PySem.Str.ofString "self")]) F sc_Service_p_stations 1 1 rfl rfl (fun cdv A outer s H E hr tk hp => by
    have hu := hr.units
    have hu5 := hr.units5
    exact (ss_one (s_ret (d_ct (cr_listX rfl) n_listX rfl m_list bt_list (pa_c (p_v (d_fld f_Service (by decide) (p_b (pv 0)))) pa_n)))))
set_option maxHeartbeats 4000000 in
theorem ok_Service_p_registers {f : Addr} {fd : FuncData} (F : Fun K "registers" "Service.registers" s_Service_p_registers f fd) (f_Service : FldC K "Service" [(PySem.Str.ofString "_registers"), (PySem.Str.ofString "_requests"), (PySem.Str.ofString "_rules"), (PySem.Str.ofString "_stations")]) (m_list : mg "list" = none) : FnOk P w K mg base (L2.CX P w) 1 f fd [(PySem.Str.ofString "self")] (spD K mg 1 F_Service_p_registers) :=
  fn_dn (k := 0) (ks := [0]) (g := G_Service_p_registers) (N := sc_Service_p_registersN) (ps := [(PySem.Str.ofString "self")]) F sc_Service_p_registers 1 1 rfl rfl (fun cdv A outer s H E hr tk hp => by
    have hu := hr.units
    have hu5 := hr.units5
    exact (ss_one (s_ret (d_ct (cr_listX rfl) n_listX rfl m_list bt_list (pa_c (p_v (d_fld f_Service (by decide) (p_b (pv 0)))) pa_n)))))
set_option maxHeartbeats 4000000 in
theorem ok_Service_p_requests {f : Addr} {fd : FuncData} (F : Fun K "requests" "Service.requests" s_Service_p_requests f fd) (f_Service : FldC K "Service" [(PySem.Str.ofString "_registers"), (PySem.Str.ofString "_requests"), (PySem.Str.ofString "_rules"), (PySem.Str.ofString "_stations")]) (m_list : mg "list" = none) : FnOk P w K mg base (L2.CX P w) 1 f fd [(PySem.Str.ofString "self")] (spD K mg 1 F_Service_p_requests) :=
  fn_dn (k := 0) (ks := [0]) (g := G_Service_p_requests) (N := sc_Service_p_requestsN) (ps := [(PySem.Str.ofString "self")]) F sc_Service_p_requests 1 1 rfl rfl (fun cdv A outer s H E hr tk hp => by
    have hu := hr.units
    have hu5 := hr.units5
    exact (ss_one (s_ret (d_ct (cr_listX rfl) n_listX rfl m_list bt_list (pa_c (p_v (d_fld f_Service (by decide) (p_b (pv 0)))) pa_n)))))
set_option maxHeartbeats 4000000 in
theorem ok_Service_p_rules {f : Addr} {fd : FuncData} (F : Fun K "rules" "Service.rules" s_Service_p_rules f fd) (f_Service : FldC K "Service" [(PySem.Str.ofString "_registers"), (PySem.Str.ofString "_requests"), (PySem.Str.ofString "_rules"), (PySem.Str.ofString "_stations")]) (m_list : mg "list" = none) : FnOk P w K mg base (L2.CX P w) 1 f fd [(PySem.Str.ofString "self")] (spD K mg 1 F_Service_p_rules) :=
  fn_dn (k := 0) (ks := [0]) (g := G_Service_p_rules) (N := sc_Service_p_rulesN) (ps := [(PySem.Str.ofString "self")]) F sc_Service_p_rules 1 1 rfl rfl (fun cdv A outer s H E hr tk hp => by
    have hu := hr.units
    have hu5 := hr.units5
    exact (ss_one (s_ret (d_ct (cr_listX rfl) n_listX rfl m_list bt_list (pa_c (p_v (d_fld f_Service (by decide) (p_b (pv 0)))) pa_n)))))
set_option maxHeartbeats 4000000 in
theorem ok_format_service {f : Addr} {fd : FuncData} (F : Fun K "format_service" "format_service" s_format_service f fd) (c_format_rule : Cl P w K mg base 42 "format_rule" 1 F_format_rule []) (p_Service_p_registers : PrpC P w K mg base 1 "Service" "registers" F_Service_p_registers) (p_Service_p_requests : PrpC P w K mg base 1 "Service" "requests" F_Service_p_requests) (p_Service_p_rules : PrpC P w K mg base 1 "Service" "rules" F_Service_p_rules) (p_Service_p_stations : PrpC P w K mg base 1 "Service" "stations" F_Service_p_stations) : FnOk P w K mg base (L2.CX P w) 43 f fd [(PySem.Str.ofString "service")] (spD K mg 1 F_format_service) :=
  fn_dn (k := 42) (ks := [0]) (g := G_format_service) (N := sc_format_serviceN) (ps := [(PySem.Str.ofString "service")]) F sc_format_service 1 4 rfl rfl (fun cdv A outer s H E hr tk hp => by
    have hu := hr.units
    have hu5 := hr.units5
    exact (ss_cons (s_set (i := 1) sc_format_service.nd rfl (Or.inl rfl) (d_lst (is_c (d_m1 PySem.F.slot_str_join PySem.F.type_str_join mt_join n_join (p_v d_str) (p_v (d_op o_add n_add (p_v (d_lst (is_c d_str is_n))) (p_v (d_prp p_Service_p_stations hr (d_var (pv 0))))))) (is_c (d_m1 PySem.F.slot_str_join PySem.F.type_str_join mt_join n_join (p_v d_str) (p_v (d_op o_add n_add (p_v (d_lst (is_c d_str is_n))) (p_v (d_prp p_Service_p_registers hr (d_var (pv 0))))))) is_n))))
  (ss_cons (s_drop (d_mut1 (pv 1) PySem.F.slot_list_extend PySem.F.type_list_extend mt_extend u_ext (d_comp (own := [(PySem.Str.ofString "kind", 2)]) rfl sc_format_service.nd (i_seq (d_prp p_Service_p_requests hr (d_var (pv 0)))) (blkOk_by (N := sc_format_serviceN) (sc := defScope s_format_service) (by decide +kernel)) (fun _ _ _ _ _ => (pg_name (i := 2) sc_format_service.nd rfl (Or.inl rfl))) (fun _ _ _ _ _ => pts_y) (fun _ _ _ _ _ => (d_m1 PySem.F.slot_str_join PySem.F.type_str_join mt_join n_joinT (p_v d_str) (p_v (d_op o_add n_add (p_v (d_tup (is_c d_str is_n))) (p_b (pv 2)))))) (by decide))))
  (ss_cons (s_drop (d_mut1 (pv 1) PySem.F.slot_list_extend PySem.F.type_list_extend mt_extend u_ext (d_comp (own := [(PySem.Str.ofString "rule", 3)]) rfl sc_format_service.nd (i_seq (d_prp p_Service_p_rules hr (d_var (pv 0)))) (blkOk_by (N := sc_format_serviceN) (sc := defScope s_format_service) (by decide +kernel)) (fun _ _ _ _ _ => (pg_name (i := 3) sc_format_service.nd rfl (Or.inl rfl))) (fun _ _ _ _ _ => pts_y) (fun _ _ _ _ _ => (d_call c_format_rule hr takes0 (pa_c (p_b (pv 3)) pa_n))) (by decide))))
  (ss_one (s_ret (d_m1 PySem.F.slot_str_join PySem.F.type_str_join mt_join n_join (p_v d_str) (p_b (pv 1)))))))))
set_option maxHeartbeats 4000000 in
theorem ok_law {f : Addr} {fd : FuncData} (F : Fun K "law" "law" s_law f fd) (c__law_deck : Cl P w K mg base 1 "_law_deck" 1 F__law_deck []) (c__law_lines : Cl P w K mg base 43 "_law_lines" 1 F__law_lines []) (c__law_service : Cl P w K mg base 47 "_law_service" 1 F__law_service []) (c__law_text_of : Cl P w K mg base 1 "_law_text_of" 1 F__law_text_of []) (c_format_service : Cl P w K mg base 43 "format_service" 1 F_format_service []) (i_Service : ClM P w K mg base 49 "Service" 4 F_Service_m_init) (m_isinstance : mg "isinstance" = none) (m_range : mg "range" = none) (m_str : mg "str" = none) (p_Service_p_rules : PrpC P w K mg base 1 "Service" "rules" F_Service_p_rules) (p_Service_p_stations : PrpC P w K mg base 1 "Service" "stations" F_Service_p_stations) : FnOk P w K mg base (L2.CX P w) 51 f fd [(PySem.Str.ofString "_law_script")] (spD K mg 1 F_law) :=
  fn_dn (k := 50) (ks := [0]) (g := G_law) (N := sc_lawN) (ps := [(PySem.Str.ofString "_law_script")]) F sc_law 1 7 rfl rfl (fun cdv A outer s H E hr tk hp => by
    have hu := hr.units
    have hu5 := hr.units5
    exact (ss_cons (s_set (i := 1) sc_law.nd rfl (Or.inl rfl) (d_call c__law_deck hr tk (pa_c (p_b (pv 0)) pa_n)))
  (ss_cons (s_set (i := 2) sc_law.nd rfl (Or.inl rfl) (d_call c__law_service hr tk (pa_c (p_b (pv 1)) pa_n)))
  (ss_cons (s_set (i := 3) sc_law.nd rfl (Or.inl rfl) (d_make i_Service hr tk (pa_c (p_v (d_ix (ix_any hu) n_ix (p_b (pv 2)) (p_v d_int) (fun _ _ => rfl))) (pa_c (p_v (d_ix (ix_any hu) n_ix (p_b (pv 2)) (p_v d_int) (fun _ _ => rfl))) (pa_c (p_v (d_ix (ix_any hu) n_ix (p_b (pv 2)) (p_v d_int) (fun _ _ => rfl))) (pa_c (p_v (d_ix (ix_any hu) n_ix (p_b (pv 2)) (p_v d_int) (fun _ _ => rfl))) pa_n))))))
  (ss_cons (s_set (i := 4) sc_law.nd rfl (Or.inl rfl) (d_call c__law_text_of hr tk (pa_c (p_v (d_call c__law_lines hr tk (pa_c (p_b (pv 2)) pa_n))) pa_n)))
  (ss_cons (s_for hp rfl (i_rng1 rfl m_range (pa_c (p_v d_int) pa_n)) (pg_name (i := 5) sc_law.nd rfl (Or.inl rfl))
    (ss_cons (s_set (i := 6) sc_law.nd rfl (Or.inl rfl) (d_call c_format_service hr tk (pa_c (p_b (pv 3)) pa_n)))
  (ss_one (s_if (c_w (w_or (c_not (c_tst (d_isi rfl m_isinstance rfl m_str bt_str bt_isinstance (p_b (pv 6))))) (w_one (c_cmp (o_ne hu) n_ne (p_b (pv 6)) (p_b (pv 4)) (nomark _)))))
    (ss_one (s_ret d_bl))
    ss_nil))) (by decide))
  (ss_one (s_ret (d_and (d_cmp (o_eq hu) n_eq (p_v (d_prp p_Service_p_rules hr (d_var (pv 3)))) (p_v (d_ix (ix_any hu) n_ix (p_b (pv 2)) (p_v d_int) (fun _ _ => rfl))) (nomark _)) (d_one (d_cmp (o_eq hu) n_eq (p_v (d_prp p_Service_p_stations hr (d_var (pv 3)))) (p_v (d_ix (ix_any hu) n_ix (p_b (pv 2)) (p_v d_int) (fun _ _ => rfl))) (nomark _))))))))))))
end
local macro_rules | `(tactic| walk_at "ev") => `(tactic| simp [eDct0_a, gTab_q, gIx_ds, gIx_di, gIn_ds, gNotIn_ds, gIn_di, gNotIn_di, gGet1_s, gGet1_i, sSetK_a, eDisp_a, gDictC_d, dispL_n, dispL_c, isDct_d, mkF_e, finR_ret, finR_next, finR_ex, FEv_fin, finO_n, finO_c, sSeq_a, sIf_a, sRet_a, sSet_a, sDrop_a, sFor_a, sNext_a, sBrk_a, sCnt_a, tst_a, cAnd_a, cOr_a, cNot_a, ap_a, ops_n, ops_b, ops_v, eC_a, eVar_a, eMove_a, eFz_a, eIf_a, eAnd_a, eOr_a, eNot_a, items_n, items_c, eTup_a, eLst_a, pure_a, stuck_a, bind_a, eCall_e, callR_ok, callR_ex, Ev_callR, cops_n, cops_b, cops_v, wb, thn_ok, thn_ex, thn_none, ↓Ev_d, ↓FEv_d, Ev_thn, Ev_ok, Ev_ex, Ev_none, FEv_ok, FEv_ex, FEv_none, getO_nil, getO_0, getO_0n, getO_s, gAdd_i, gAdd_z, gAdd_l, gAdd_t, gAddI_i, gSub_i, gMul_i, gMulS_q, gDiv_i, gMod_i, gPow_i, gNeg_i, gEq_i, gEq_z, gEq_b, gNe_i, gNe_z, gNe_b, gEq_l, gEq_t, gEq_s, gEq_n, gNe_l, gNe_t, gNe_s, gNe_n, gLt_i, gLtX_i, gLtX_z, gLtX_t, gLtX_l, gGt_i, gLe_i, gGe_i, gLt_t, gGt_t, gLe_t, gGe_t, gLt_l, gGt_l, gLe_l, gGe_l, gLt_z, gGt_z, gLe_z, gGe_z, gIsN_n, gIsN_b, gIsN_i, gIsN_z, gIsN_l, gIsN_t, gIsN_s, gIsN_bb, gNotN_n, gNotN_b, gNotN_i, gNotN_z, gNotN_l, gNotN_t, gNotN_s, gNotN_bb, gIn_z, gIn_l, gIn_t, gNotIn_z, gNotIn_l, gNotIn_t, gIx_l, gIx_t, gIx_s, gIx_z, gLen_l, gLen_t, gLen_s, gLen_z, gInt_i, gInt_b, gOrd_1, gListX_z, gListX_l, gListX_t, gListX_s, gList_l, gList_t, gList_s, gTuple_l, gTuple_t, gApp_q, gPop_q, gPop0_q, gExt_q, gRev_q, gIsi_q, gSl00, gSl10, gSl01, gSl11, slD_l, slD_t, slD_s, slD_z, gRevS_l, gCount_z, gStarts_z, gRstrip_z, seqD_l, seqD_t, seqD_s, seqD_z, sRng1_e, sRng2_e, rgR1_q, rgR2_q, sSeqD_a, isStr, sEnum_a, eComp_e, lcR_ok, Ev_lcR, wipeE_n, wipeE_c, restE_n, restE_c, eMut1_a, eMut0_a, sSetIx_a, eChain_a, tru_a, sAug_a, sSetT_a, apM_b, apM_v, eI_a, Tg.go, gMax2_i, gMin2_i, gIns0_q, gStr1_i, gAbs_i, truD_bl, truD_l, truD_t, gEq_iz, gEq_zi, gNe_iz, gNe_zi, atI_c0, atI_c1, atI_c2, atI_c3, atI_c4, atI_c5, isi_int_non, isi_int_bl, isi_int_int, isi_int_str, isi_int_lst, isi_int_scr, isi_int_tup, isi_bool_non, isi_bool_bl, isi_bool_int, isi_bool_str, isi_bool_lst, isi_bool_scr, isi_bool_tup, isi_str_non, isi_str_bl, isi_str_int, isi_str_str, isi_str_lst, isi_str_scr, isi_str_tup, isi_list_non, isi_list_bl, isi_list_int, isi_list_str, isi_list_lst, isi_list_scr, isi_list_tup, isi_tuple_non, isi_tuple_bl, isi_tuple_int, isi_tuple_str, isi_tuple_lst, isi_tuple_scr, isi_tuple_tup, isLst, gLCount_s, sRaise_a, sRaise0_a, Ev_sTry, HandP_t, HandP_f, eXf_p, eXf_w, eXi_a, *])
local macro_rules | `(tactic| walk_at "evs") => `(tactic| simp only [eDct0_a, gTab_q, gIx_ds, gIx_di, gIn_ds, gNotIn_ds, gIn_di, gNotIn_di, gGet1_s, gGet1_i, sSetK_a, eDisp_a, gDictC_d, dispL_n, dispL_c, isDct_d, mkF_e, finR_ret, finR_next, finR_ex, FEv_fin, finO_n, finO_c, sSeq_a, sIf_a, sRet_a, sSet_a, sDrop_a, sFor_a, sNext_a, sBrk_a, sCnt_a, tst_a, cAnd_a, cOr_a, cNot_a, ap_a, ops_n, ops_b, ops_v, eC_a, eVar_a, eMove_a, eFz_a, eIf_a, eAnd_a, eOr_a, eNot_a, items_n, items_c, eTup_a, eLst_a, pure_a, stuck_a, bind_a, eCall_e, callR_ok, callR_ex, Ev_callR, cops_n, cops_b, cops_v, wb, thn_ok, thn_ex, thn_none, ↓Ev_d, ↓FEv_d, Ev_thn, Ev_ok, Ev_ex, Ev_none, FEv_ok, FEv_ex, FEv_none, getO_nil, getO_0, getO_0n, getO_s, gAdd_i, gAdd_z, gAdd_l, gAdd_t, gAddI_i, gSub_i, gMul_i, gMulS_q, gDiv_i, gMod_i, gPow_i, gNeg_i, gEq_i, gEq_z, gEq_b, gNe_i, gNe_z, gNe_b, gEq_l, gEq_t, gEq_s, gEq_n, gNe_l, gNe_t, gNe_s, gNe_n, gLt_i, gLtX_i, gLtX_z, gLtX_t, gLtX_l, gGt_i, gLe_i, gGe_i, gLt_t, gGt_t, gLe_t, gGe_t, gLt_l, gGt_l, gLe_l, gGe_l, gLt_z, gGt_z, gLe_z, gGe_z, gIsN_n, gIsN_b, gIsN_i, gIsN_z, gIsN_l, gIsN_t, gIsN_s, gIsN_bb, gNotN_n, gNotN_b, gNotN_i, gNotN_z, gNotN_l, gNotN_t, gNotN_s, gNotN_bb, gIn_z, gIn_l, gIn_t, gNotIn_z, gNotIn_l, gNotIn_t, gIx_l, gIx_t, gIx_s, gIx_z, gLen_l, gLen_t, gLen_s, gLen_z, gInt_i, gInt_b, gOrd_1, gListX_z, gListX_l, gListX_t, gListX_s, gList_l, gList_t, gList_s, gTuple_l, gTuple_t, gApp_q, gPop_q, gPop0_q, gExt_q, gRev_q, gIsi_q, gSl00, gSl10, gSl01, gSl11, slD_l, slD_t, slD_s, slD_z, gRevS_l, gCount_z, gStarts_z, gRstrip_z, seqD_l, seqD_t, seqD_s, seqD_z, sRng1_e, sRng2_e, rgR1_q, rgR2_q, sSeqD_a, isStr, sEnum_a, eComp_e, lcR_ok, Ev_lcR, wipeE_n, wipeE_c, restE_n, restE_c, eMut1_a, eMut0_a, sSetIx_a, eChain_a, tru_a, sAug_a, sSetT_a, apM_b, apM_v, eI_a, Tg.go, gMax2_i, gMin2_i, gIns0_q, gStr1_i, gAbs_i, truD_bl, truD_l, truD_t, gEq_iz, gEq_zi, gNe_iz, gNe_zi, atI_c0, atI_c1, atI_c2, atI_c3, atI_c4, atI_c5, isi_int_non, isi_int_bl, isi_int_int, isi_int_str, isi_int_lst, isi_int_scr, isi_int_tup, isi_bool_non, isi_bool_bl, isi_bool_int, isi_bool_str, isi_bool_lst, isi_bool_scr, isi_bool_tup, isi_str_non, isi_str_bl, isi_str_int, isi_str_str, isi_str_lst, isi_str_scr, isi_str_tup, isi_list_non, isi_list_bl, isi_list_int, isi_list_str, isi_list_lst, isi_list_scr, isi_list_tup, isi_tuple_non, isi_tuple_bl, isi_tuple_int, isi_tuple_str, isi_tuple_lst, isi_tuple_scr, isi_tuple_tup, isLst, gLCount_s, sRaise_a, sRaise0_a, Ev_sTry, HandP_t, HandP_f, eXf_p, eXf_w, eXi_a])
theorem abc_zl : zl (PySem.Str.ofString "abcdefghijklmnopqrstuvwxyz") = [97, 98, 99, 100, 101, 102, 103, 104, 105, 106, 107, 108, 109, 110, 111, 112, 113, 114, 115, 116, 117, 118, 119, 120, 121, 122] := by decide +kernel
theorem abc_len : (PySem.Str.ofString "abcdefghijklmnopqrstuvwxyz").length = 26 := by decide +kernel
theorem abc_at {r : Int} (h0 : 0 ≤ r) (h1 : r < 26) : atI (PySem.Str.ofString "abcdefghijklmnopqrstuvwxyz").cps.toList r = some (97 + r.toNat) := by
  obtain ⟨n, rfl⟩ := Int.eq_ofNat_of_zero_le h0
  have h2 : n < 26 := by omega
  have e : (PySem.Str.ofString "abcdefghijklmnopqrstuvwxyz").cps.toList = _ := abc_zl
  rw [e, atI_nat' (by omega) (by show (n : Int) < 26; omega)]
  clear h0 h1
  revert n
  decide
def LtrZ (z : Str) : Prop := ∀ c ∈ zl z, 97 ≤ c ∧ c ≤ 122
theorem LtrZ.ok {z : Str} (h : LtrZ z) : ∀ c ∈ zl z, c < 1114112 := fun c hc => by have := h c hc; omega
/-- a row of one-sign texts that are letters -/
def LtRow (xs : List D) : Prop := ∃ cs : List Nat, xs = cs.map (fun c => D.str (one c)) ∧ ∀ c ∈ cs, 97 ≤ c ∧ c ≤ 122
theorem ltRow_of : ∀ (xs : List D), (∀ x ∈ xs, ∃ c, x = D.str (one c) ∧ 97 ≤ c ∧ c ≤ 122) → LtRow xs
  | [], _ => ⟨[], rfl, fun c h => (List.not_mem_nil h).elim⟩
  | x :: xs, h => by
    obtain ⟨c, rfl, hc⟩ := h x List.mem_cons_self
    obtain ⟨cs, rfl, hcs⟩ := ltRow_of xs fun y hy => h y (List.mem_cons_of_mem _ hy)
    refine ⟨c :: cs, rfl, fun d hd => ?_⟩
    rcases List.mem_cons.mp hd with rfl | hd
    · exact hc
    · exact hcs d hd
theorem LtRow.join {xs : List D} (h : LtRow xs) (hl : xs.length ≤ 1000) : ∃ z : Str, gJoin [.str (PySem.Str.ofString ""), .lst xs] = some (sO z) ∧ LtrZ z ∧ z.length = xs.length := by
  obtain ⟨cs, rfl, hcs⟩ := h
  rw [List.length_map] at hl
  exact ⟨⟨cs.toArray⟩, gJoin_ones (by omega), hcs, by rw [len_mk, List.length_map]⟩
/-- the deck that is drawn from -/
structure Dk where
  c0 : Int
  i : Int
  seed : Int
  ss : List Int
  c4 : Int
  hi : 0 ≤ i
def dkL (k : Dk) : List D := [.int k.c0, .int k.i, .int k.seed, .lst (k.ss.map .int), .int k.c4]
def dk (k : Dk) : O := .lst (dkL k)
def Dk.s4 (k : Dk) (v : Int) : Dk := ⟨k.c0, k.i, k.seed, k.ss, v, k.hi⟩
theorem dk_e (k : Dk) : dk k = .lst [.int k.c0, .int k.i, .int k.seed, .lst (k.ss.map .int), .int k.c4] := rfl
theorem dk_d (k : Dk) : (dk k).d = .lst [.int k.c0, .int k.i, .int k.seed, .lst (k.ss.map .int), .int k.c4] := rfl
theorem ix5_0 {n : Nat} : ixN (n + 5) 0 = some 0 := ixN_nat (by omega) (by omega)
theorem ix5_1 {n : Nat} : ixN (n + 5) 1 = some 1 := ixN_nat (by omega) (by omega)
theorem ix5_2 {n : Nat} : ixN (n + 5) 2 = some 2 := ixN_nat (by omega) (by omega)
theorem ix5_4 {n : Nat} : ixN (n + 5) 4 = some 4 := ixN_nat (by omega) (by omega)
theorem deck_ok (ns : List Int) : ∃ k, F__law_deck [.fr (.scr ns)] = some (.ok (dk k) [.fr (.scr ns)]) := by
  have H : FEv (F__law_deck [.fr (.scr ns)]) (@hq _ _ ⟨fun o os => (∃ k, o = dk k) ∧ os = [.fr (.scr ns)]⟩) (fun _ _ => False) := by
    unfold F__law_deck G__law_deck
    walk_at "ev"
    refine Ev_forP (f := D.int) (fun done e => @Dn.hb _ ⟨fun e => ∃ (s : Int) (q : Option O), e = [some (.fr (.scr ns)), some (iO s), q]⟩ e) _ ns [] _ ⟨_, _, rfl⟩ ?_ ?_
    · rintro pre x post e he ⟨s, q, rfl⟩
      refine ⟨_, rfl, ?_⟩
      have m1 : mulOk s 48271 = true := mul_small' (by omega)
      unfold B__law_deck_0
      clear he
      walk_at "ev"
      exact hbi ⟨_, _, rfl⟩
    · rintro e ⟨s, q, rfl⟩
      walk_at "ev"
      exact hqi ⟨⟨⟨0, 0, s, ns, 19, Int.le_refl _⟩, rfl⟩, rfl⟩
  obtain ⟨o, os, h, ⟨k, rfl⟩, rfl⟩ := H.get
  exact ⟨k, h⟩
theorem draw_ex (k : Dk) (b : Int) (hb : 0 < b) (hb2 : b < 1000000) : ∃ v k', F__law_draw [dk k, .fr (.int b)] = some (.ok (iO v) [dk k', .fr (.int b)]) ∧ 0 ≤ v ∧ v < b ∧ k'.c4 = k.c4 := by
  have H : FEv (F__law_draw [dk k, .fr (.int b)]) (@hq _ _ ⟨fun o os => ∃ v k', o = iO v ∧ os = [dk k', .fr (.int b)] ∧ 0 ≤ v ∧ v < b ∧ k'.c4 = k.c4⟩) (fun _ _ => False) := by
    have hne : ¬ b = 0 := by omega
    have hna : b.natAbs < 1073741824 := by omega
    have hbd : ∀ x : Int, 0 ≤ x.fmod b ∧ x.fmod b < b := fun x => fm_bd hb
    have m1 : mulOk k.seed 48271 = true := mul_small' (by omega)
    have hde := dk_e k
    have e0 := @ix5_0 0
    have e1 := @ix5_1 0
    have e2 := @ix5_2 0
    have hi := k.hi
    unfold F__law_draw G__law_draw
    by_cases h0 : k.c0 = 0
    · by_cases h1 : k.i < k.ss.length
      · obtain ⟨x, hx, _⟩ := atI_some (xs := k.ss.map D.int) (i := k.i) hi (by rw [List.length_map]; exact h1)
        have hxi : ∃ j, x = .int j := by
          rename_i hm
          obtain ⟨j, _, rfl⟩ := List.mem_map.mp hm
          exact ⟨j, rfl⟩
        obtain ⟨j, rfl⟩ := hxi
        obtain ⟨a, ha⟩ : ∃ a, gAbs [.int j] = some (iO a) := ⟨_, gAbs_i⟩
        have hb3 := hbd a
        have fin : ∃ k' : Dk, dk k' = .lst [.int (a.fdiv b), .int (k.i + 1), .int k.seed, .lst (k.ss.map .int), .int k.c4] ∧ k'.c4 = k.c4 := ⟨⟨_, _, _, _, _, by omega⟩, rfl, rfl⟩
        clear hbd
        walk_at "ev"
        obtain ⟨k', f1, f2⟩ := fin
        exact hqi ⟨_, k', rfl, by rw [f1], hb3.1, hb3.2, f2⟩
      · have hb3 := hbd (((k.seed * 48271 + 11).fmod 2147483647).fdiv 5)
        have fin : ∃ k' : Dk, dk k' = .lst [.int ((((k.seed * 48271 + 11).fmod 2147483647).fdiv 5).fdiv b), .int k.i, .int ((k.seed * 48271 + 11).fmod 2147483647), .lst (k.ss.map .int), .int k.c4] ∧ k'.c4 = k.c4 := ⟨⟨_, _, _, _, _, hi⟩, rfl, rfl⟩
        clear hbd
        walk_at "ev"
        obtain ⟨k', f1, f2⟩ := fin
        exact hqi ⟨_, k', rfl, by rw [f1], hb3.1, hb3.2, f2⟩
    · have hb3 := hbd k.c0
      have fin : ∃ k' : Dk, dk k' = .lst [.int (k.c0.fdiv b), .int k.i, .int k.seed, .lst (k.ss.map .int), .int k.c4] ∧ k'.c4 = k.c4 := ⟨⟨_, _, _, _, _, hi⟩, rfl, rfl⟩
      clear hbd
      walk_at "ev"
      obtain ⟨k', f1, f2⟩ := fin
      exact hqi ⟨_, k', rfl, by rw [f1], hb3.1, hb3.2, f2⟩
  obtain ⟨o, os, h, v, k', rfl, rfl, h1⟩ := H.get
  exact ⟨v, k', h, h1⟩
open Classical in
noncomputable def dV (k : Dk) (b : Int) : Int := if h : 0 < b ∧ b < 1000000 then (draw_ex k b h.1 h.2).choose else 0
open Classical in
noncomputable def dN (k : Dk) (b : Int) : Dk := if h : 0 < b ∧ b < 1000000 then (draw_ex k b h.1 h.2).choose_spec.choose else k
theorem draw_ok (k : Dk) (b : Int) (hb : 0 < b) (hb2 : b < 1000000) : F__law_draw [dk k, .fr (.int b)] = some (.ok (iO (dV k b)) [dk (dN k b), .fr (.int b)]) := by
  unfold dV dN
  rw [dif_pos ⟨hb, hb2⟩, dif_pos ⟨hb, hb2⟩]
  exact (draw_ex k b hb hb2).choose_spec.choose_spec.1
theorem draw_bd (k : Dk) {b : Int} (hb : 0 < b) (hb2 : b < 1000000) : 0 ≤ dV k b ∧ dV k b < b := by
  unfold dV
  rw [dif_pos ⟨hb, hb2⟩]
  exact ⟨(draw_ex k b hb hb2).choose_spec.choose_spec.2.1, (draw_ex k b hb hb2).choose_spec.choose_spec.2.2.1⟩
theorem draw_c4 (k : Dk) (b : Int) : (dN k b).c4 = k.c4 := by
  unfold dN
  split
  · rename_i h; exact (draw_ex k b h.1 h.2).choose_spec.choose_spec.2.2.2
  · rfl
theorem dletter_ex (k : Dk) : ∃ c k', F__law_letter [dk k] = some (.ok (sO (one c)) [dk k']) ∧ (97 ≤ c ∧ c ≤ 122) ∧ k'.c4 = k.c4 := by
  have H : FEv (F__law_letter [dk k]) (@hq _ _ ⟨fun o os => ∃ c k', o = sO (one c) ∧ os = [dk k'] ∧ (97 ≤ c ∧ c ≤ 122) ∧ k'.c4 = k.c4⟩) (fun _ _ => False) := by
    have dr := draw_ok
    have ab2 : (PySem.Str.ofString "ab").length ≤ sizeLine := sz_of (by decide +kernel)
    have hs : (PySem.Str.ofString "abcdefghijklmnopqrstuvwxyz").length ≤ sizeLine := sz_of (by rw [abc_len]; omega)
    unfold F__law_letter G__law_letter
    by_cases h : dV k 2 = 0
    · have bd := draw_bd (dN k 2) (b := 2) (by omega) (by omega)
      have hz : (PySem.Str.ofString "ab").cps.toList = [97, 98] := by decide +kernel
      have hab : ∃ c, atI (PySem.Str.ofString "ab").cps.toList (dV (dN k 2) 2) = some c ∧ 97 ≤ c ∧ c ≤ 122 := by
        rw [hz]
        have : dV (dN k 2) 2 = 0 ∨ dV (dN k 2) 2 = 1 := by omega
        rcases this with h | h
        · rw [h]; exact ⟨97, rfl, by omega, by omega⟩
        · rw [h]; exact ⟨98, rfl, by omega, by omega⟩
      obtain ⟨c, h1, h2⟩ := hab
      clear hz
      walk_at "ev"
      exact hqi ⟨c, _, rfl, rfl, h2, by rw [draw_c4, draw_c4]⟩
    · have bd := draw_bd (dN k 2) (b := 26) (by omega) (by omega)
      have ha := abc_at bd.1 bd.2
      walk_at "ev"
      exact hqi ⟨_, _, rfl, rfl, by omega, by rw [draw_c4, draw_c4]⟩
  obtain ⟨o, os, h, c, k', rfl, rfl, h1⟩ := H.get
  exact ⟨c, k', h, h1⟩
noncomputable def lV (k : Dk) : Nat := (dletter_ex k).choose
noncomputable def lN (k : Dk) : Dk := (dletter_ex k).choose_spec.choose
theorem letter_ok (k : Dk) : F__law_letter [dk k] = some (.ok (sO (one (lV k))) [dk (lN k)]) := (dletter_ex k).choose_spec.choose_spec.1
theorem letter_bd (k : Dk) : 97 ≤ lV k ∧ lV k ≤ 122 := (dletter_ex k).choose_spec.choose_spec.2.1
theorem letter_c4 (k : Dk) : (lN k).c4 = k.c4 := (dletter_ex k).choose_spec.choose_spec.2.2
/-- letters from the deck, one by one -/
theorem dltr_comp (rest : Sl) (C : M O) (j : Nat) (hC : ∀ k (d : D), ∃ e1, (Tg.n j).go d (some (dk k) :: rest) = some e1 ∧ Ev (C e1) (fun o e3 => o.d = .str (one (lV k)) ∧ wipeE e3 [j] = some (dk (lN k)) :: rest) (fun _ _ => False)) (k : Dk) (n : Int) (h0 : 0 ≤ n) (h1 : n ≤ 1000) :
    ∃ z k', lcL [j] (.n j) cYes C (rngD 0 n) [] (some (dk k) :: rest) = some ((zl z).map fun c => D.str (one c), some (dk k') :: rest) ∧ LtrZ z ∧ (z.length : Int) = n ∧ k'.c4 = k.c4 := by
  obtain ⟨xs, e', c1, c2, cs, k', rfl, rfl, c3, c4⟩ := lc_acc (own := [j]) (tg := .n j) (f := C) (fun acc e => ∃ (cs : List Nat) (k' : Dk), acc = cs.map (fun c => D.str (one c)) ∧ e = some (dk k') :: rest ∧ (∀ c ∈ cs, 97 ≤ c ∧ c ≤ 122) ∧ k'.c4 = k.c4) (rngD 0 n) (some (dk k) :: rest) (by rw [rngD_len]; omega) (fun d _ acc e ⟨cs, k1, e1, e2, e3, e4⟩ => by
    subst e1 e2
    obtain ⟨e1, g1, g2⟩ := hC k1 d
    refine ⟨e1, g1, g2.mono (fun o e3' ⟨q1, q2⟩ => ⟨cs ++ [lV k1], lN k1, by rw [List.map_append, q1]; rfl, q2, fun c hc => ?_, by rw [letter_c4, e4]⟩) (fun _ _ z => z)⟩
    rcases List.mem_append.mp hc with hc | hc
    · exact e3 c hc
    · rw [List.mem_singleton.mp hc]; exact letter_bd k1) ⟨[], k, rfl, rfl, fun c h => (List.not_mem_nil h).elim, rfl⟩
  rw [List.length_map, rngD_len] at c2
  exact ⟨⟨cs.toArray⟩, k', c1, c3, by rw [len_mk]; omega, c4⟩
theorem dtext_ex (k : Dk) (m : Int) (hm : 0 ≤ m) (hm2 : m ≤ 100) : ∃ z k', F__law_text [dk k, .fr (.int m)] = some (.ok (sO z) [dk k', .fr (.int m)]) ∧ LtrZ z ∧ (z.length : Int) ≤ m ∧ k'.c4 = k.c4 := by
  have H : FEv (F__law_text [dk k, .fr (.int m)]) (@hq _ _ ⟨fun o os => ∃ z k', o = sO z ∧ os = [dk k', .fr (.int m)] ∧ LtrZ z ∧ (z.length : Int) ≤ m ∧ k'.c4 = k.c4⟩) (fun _ _ => False) := by
    have dr := draw_ok k (m + 1) (by omega) (by omega)
    have bd := draw_bd k (b := m + 1) (by omega) (by omega)
    have ri : inR (dV k (m + 1)) = true := inR_pos bd.1 (by omega)
    have lt := letter_ok
    obtain ⟨z, k', c1, c2, c3, c4⟩ := dltr_comp [some (iO m), some (iO (dV k (m + 1))), none] C__law_text_0 3 (fun k d => ⟨_, rfl, by
      unfold C__law_text_0
      walk_at "ev"⟩) (dN k (m + 1)) (dV k (m + 1)) bd.1 (by omega)
    have hj := gJoin_ones (cs := zl z) (by have : (zl z).length = z.length := rfl; omega)
    have hz : (⟨(zl z).toArray⟩ : Str) = z := zl_inj (zl_mk _)
    rw [hz] at hj
    have c5 : k'.c4 = k.c4 := by rw [c4, draw_c4]
    have c6 : (z.length : Int) ≤ m := by omega
    unfold F__law_text G__law_text
    clear bd c3 c4 hz
    walk_at "ev"
    exact hqi ⟨z, k', rfl, rfl, c2, c6, c5⟩
  obtain ⟨o, os, h, z, k', rfl, rfl, h1⟩ := H.get
  exact ⟨z, k', h, h1⟩
/-- a name: letters, one to 18 -/
def IsNm (z : Str) : Prop := LtrZ z ∧ 1 ≤ z.length ∧ z.length ≤ 20
theorem strs_shp (zs : List Str) (h : ∀ z ∈ zs, LtrZ z) : shp (.lst (zs.map .str)) = true := (shp_lst (k := 0) fun x hx => let ⟨z, hz, e⟩ := List.mem_map.mp hx; e ▸ shp_str (h z hz).ok).shp (by omega)
theorem dnames_ex (k : Dk) (n : Int) (hn : 0 ≤ n) (hn2 : n ≤ 100) (bs : List Str) (hbs : ∀ z ∈ bs, LtrZ z) : ∃ (nms : List Str) (k' : Dk), F__law_names [dk k, .fr (.int n), .fr (.lst (bs.map .str))] = some (.ok (.lst (nms.map .str)) [dk k', .fr (.int n), .fr (.lst (bs.map .str))]) ∧ (∀ z ∈ nms, IsNm z) ∧ (nms.length : Int) = n := by
  have H : FEv (F__law_names [dk k, .fr (.int n), .fr (.lst (bs.map .str))]) (@hq _ _ ⟨fun o os => ∃ (nms : List Str) (k' : Dk), o = .lst (nms.map .str) ∧ os = [dk k', .fr (.int n), .fr (.lst (bs.map .str))] ∧ (∀ z ∈ nms, IsNm z) ∧ (nms.length : Int) = n⟩) (fun _ _ => False) := by
    have ri : inR n = true := inR_pos hn (by omega)
    have r9 : inR 9 = true := by decide
    have sb := strs_shp bs hbs
    have lt := letter_ok
    have hs26 : (PySem.Str.ofString "abcdefghijklmnopqrstuvwxyz").length ≤ sizeLine := sz_of (by rw [abc_len]; omega)
    unfold F__law_names G__law_names
    walk_at "ev"
    refine Ev_forL (fun i e => @Dn.hb _ ⟨fun e => ∃ (nms : List Str) (k' : Dk) (q4 q5 q6 : Option O), e = [some (dk k'), some (iO n), some (.fr (.lst (bs.map .str))), some (.lst (nms.map .str)), q4, q5, q6] ∧ (∀ z ∈ nms, IsNm z) ∧ nms.length = i⟩ e) _ (rngD 0 n) _ ⟨[], _, _, _, _, rfl, fun z h => (List.not_mem_nil h).elim, rfl⟩ ?_ ?_
    · rintro i d e hd ⟨nms, k', q4, q5, q6, rfl, hN, hlen⟩
      obtain ⟨rfl, hi⟩ := rng0_get hd
      refine ⟨_, rfl, ?_⟩
      obtain ⟨t, k2, t1, t2, t3, t4⟩ := dtext_ex (lN k') 2 (by omega) (by omega)
      have lb := letter_bd k'
      have s1 : (one (lV k')).length + t.length ≤ sizeLine := sz2_of (by rw [len_one]; omega)
      have hz : LtrZ (one (lV k') ++ t) := fun c hc => by
        rw [zl_app] at hc
        rcases List.mem_append.mp hc with hc | hc
        · rw [List.mem_singleton.mp hc]; exact lb
        · exact t2 c hc
      have hzl : (one (lV k') ++ t).length = 1 + t.length := by rw [len_app, len_one]
      have sn := strs_shp nms fun z hz => (hN z hz).1
      have lsz : i < sizeLine := szl1_of' (by omega)
      have key : Ev (forL (.n 6) B__law_names_0 (rngD 0 9) [some (dk k2), some (iO n), some (.fr (.lst (bs.map .str))), some (.lst (nms.map .str)), some (iO (i : Int)), some (sO (one (lV k') ++ t)), q6]) (fun fl e => fl = .next ∧ ∃ z q6, e = [some (dk k2), some (iO n), some (.fr (.lst (bs.map .str))), some (.lst (nms.map .str)), some (iO (i : Int)), some (sO z), q6] ∧ IsNm z) (fun _ _ => False) := by
        refine Ev_forL (fun j e => @Dn.hb _ ⟨fun e => ∃ (z : Str) (q6 : Option O), e = [some (dk k2), some (iO n), some (.fr (.lst (bs.map .str))), some (.lst (nms.map .str)), some (iO (i : Int)), some (sO z), q6] ∧ LtrZ z ∧ 1 ≤ z.length ∧ z.length ≤ 3 + j⟩ e) _ (rngD 0 9) _ ⟨_, _, rfl, hz, by omega, by omega⟩ ?_ ?_
        · rintro j d e hd2 ⟨z, q6, rfl, hz, hz1, hz2⟩
          obtain ⟨rfl, hj⟩ := rng0_get hd2
          refine ⟨_, rfl, ?_⟩
          have sz := shp_z hz.ok
          have m7 : mulOk (i : Int) 7 = true := mul_small' (by omega)
          have bm : 0 ≤ ((i : Int) * 7 + (j : Int)).fmod 26 ∧ ((i : Int) * 7 + (j : Int)).fmod 26 < 26 := fm_bd (by omega)
          have am := abc_at bm.1 bm.2
          have g1 := gNotIn_l sz sn
          have g2 := gNotIn_l sz sb
          have s2 : z.length + (one (97 + (((i : Int) * 7 + (j : Int)).fmod 26).toNat)).length ≤ sizeLine := sz2_of (by rw [len_one]; omega)
          have hz3 : LtrZ (z ++ one (97 + (((i : Int) * 7 + (j : Int)).fmod 26).toNat)) := fun c hc => by
            rw [zl_app] at hc
            rcases List.mem_append.mp hc with hc | hc
            · exact hz c hc
            · rw [List.mem_singleton.mp hc]; omega
          have hz4 : (z ++ one (97 + (((i : Int) * 7 + (j : Int)).fmod 26).toNat)).length = z.length + 1 := by rw [len_app, len_one]
          unfold B__law_names_0
          clear hd2 hd hN bm t3 lb
          have nxt : ∀ q, @Dn.hb _ ⟨fun e => ∃ (z : Str) (q6 : Option O), e = [some (dk k2), some (iO n), some (.fr (.lst (bs.map .str))), some (.lst (nms.map .str)), some (iO (i : Int)), some (sO z), q6] ∧ LtrZ z ∧ 1 ≤ z.length ∧ z.length ≤ 3 + (j + 1)⟩ [some (dk k2), some (iO n), some (.fr (.lst (bs.map .str))), some (.lst (nms.map .str)), some (iO (i : Int)), some (sO (z ++ one (97 + (((i : Int) * 7 + (j : Int)).fmod 26).toNat))), q] := fun q => ⟨_, _, rfl, hz3, by omega, by omega⟩
          have stop : ∀ q, ∃ z' q6, [some (dk k2), some (iO n), some (.fr (.lst (bs.map .str))), some (.lst (nms.map .str)), some (iO (i : Int)), some (sO z), q] = [some (dk k2), some (iO n), some (.fr (.lst (bs.map .str))), some (.lst (nms.map .str)), some (iO (i : Int)), some (sO z'), q6] ∧ IsNm z' := fun q => ⟨_, _, rfl, hz, hz1, by omega⟩
          clear hz hz1 hz2 hz3 hz4 hzl
          cases b1 : inL (.str z) (nms.map .str) with
          | true =>
            rw [b1] at g1
            clear stop
            walk_at "ev"
          | false =>
            rw [b1] at g1
            cases b2 : inL (.str z) (bs.map .str) with
            | true =>
              rw [b2] at g2
              clear stop
              walk_at "ev"
            | false =>
              rw [b2] at g2
              clear nxt
              have st := stop (some (iO (j : Int)))
              clear stop
              walk_at "ev"
              simpa using st
        · rintro e ⟨z, q6, rfl, hz, hz1, hz2⟩
          have : (rngD 0 9).length = 9 := by rw [rngD_len]; rfl
          rw [this] at hz2
          exact ⟨rfl, z, q6, rfl, hz, hz1, by omega⟩
      obtain ⟨fl, e3, y1, rfl, z, q6', rfl, hz'⟩ := key.get
      have hN2 : ∀ w ∈ nms ++ [z], IsNm w := fun w hw => (List.mem_append.mp hw).elim (hN w) fun h => by rw [List.mem_singleton.mp h]; exact hz'
      have hl2 : (nms ++ [z]).length = i + 1 := by rw [List.length_append, hlen]; rfl
      unfold B__law_names_1
      clear hd hN hz hzl sn lb t3 key hz'
      walk_at "ev"
      exact hbi ⟨nms ++ [z], _, _, _, _, by rw [List.map_append]; rfl, hN2, hl2⟩
    · rintro e ⟨nms, k', q4, q5, q6, rfl, hN, hlen⟩
      rw [rngD_len] at hlen
      have hl2 : (nms.length : Int) = n := by omega
      clear hlen
      walk_at "ev"
      exact hqi ⟨nms, k', rfl, rfl, hN, hl2⟩
  obtain ⟨o, os, h, nms, k', rfl, rfl, h1⟩ := H.get
  exact ⟨nms, k', h, h1⟩
/-- a name of at most 12 letters -/
def Nm (z : Str) : Prop := LtrZ z ∧ 1 ≤ z.length ∧ z.length ≤ 12
/-- names that differ from one another and from those that are barred -/
structure NL (bs nms : List Str) : Prop where
  nm : ∀ z ∈ nms, Nm z
  nd : nms.Nodup
  nb : ∀ z ∈ nms, z ∉ bs
theorem NL.snoc {bs nms : List Str} (h : NL bs nms) {z : Str} (hz : Nm z ∧ z ∉ nms ∧ z ∉ bs) : NL bs (nms ++ [z]) := by
  refine ⟨fun w hw => ?_, ?_, fun w hw => ?_⟩
  · rcases List.mem_append.mp hw with hw | hw
    · exact h.nm w hw
    · rw [List.mem_singleton.mp hw]; exact hz.1
  · rw [List.nodup_append]
    refine ⟨h.nd, by simp, fun a ha b hb e => ?_⟩
    rw [List.mem_singleton.mp hb] at e
    exact hz.2.1 (e ▸ ha)
  · rcases List.mem_append.mp hw with hw | hw
    · exact h.nb w hw
    · rw [List.mem_singleton.mp hw]; exact hz.2.2
theorem nd_le : ∀ {hs L : List Str}, hs.Nodup → (∀ h ∈ hs, h ∈ L) → hs.length ≤ L.length
  | [], _, _, _ => Nat.zero_le _
  | h :: hs, L, nd, hm => by
    obtain ⟨h1, h2⟩ := List.nodup_cons.mp nd
    have m := hm h List.mem_cons_self
    have ih := nd_le (hs := hs) (L := L.erase h) h2 fun x hx => (List.mem_erase_of_ne (show x ≠ h from fun e => h1 (e ▸ hx))).mpr (hm x (List.mem_cons_of_mem _ hx))
    rw [List.length_erase_of_mem m] at ih
    have := List.length_pos_of_mem m
    rw [List.length_cons]; omega
/-- so many were met -/
def Hist (L : List Str) (j : Nat) (z : Str) : Prop := ∃ hs : List Str, hs.length = j ∧ hs.Nodup ∧ ∀ h ∈ hs, h ∈ L ∧ h.length < z.length
theorem Hist.nil {L : List Str} {z : Str} : Hist L 0 z := ⟨[], rfl, List.nodup_nil, fun h hh => (List.not_mem_nil hh).elim⟩
theorem Hist.snoc {L : List Str} {j : Nat} {z z' : Str} (h : Hist L j z) (hm : z ∈ L) (hl : z.length < z'.length) : Hist L (j + 1) z' := by
  obtain ⟨hs, h1, h2, h3⟩ := h
  refine ⟨z :: hs, by rw [List.length_cons, h1], List.nodup_cons.mpr ⟨fun hz => by have := (h3 z hz).2; omega, h2⟩, fun x hx => ?_⟩
  rcases List.mem_cons.mp hx with rfl | hx
  · exact ⟨hm, hl⟩
  · exact ⟨(h3 x hx).1, by have := (h3 x hx).2; omega⟩
theorem Hist.le {L : List Str} {j : Nat} {z : Str} (h : Hist L j z) : j ≤ L.length := by
  obtain ⟨hs, rfl, h2, h3⟩ := h
  exact nd_le h2 fun x hx => (h3 x hx).1
theorem inL_str (z : Str) (ys : List Str) : inL (.str z) (ys.map .str) = true ↔ z ∈ ys := by
  rw [inL_pl (by rw [D.pl]) fun d hd => by obtain ⟨y, _, rfl⟩ := List.mem_map.mp hd; rw [D.pl]]
  rw [List.mem_map]
  exact ⟨fun ⟨y, hy, e⟩ => by injection e with e; exact e ▸ hy, fun h => ⟨z, h, rfl⟩⟩
theorem dnames_nd (k : Dk) (n : Int) (hn : 0 ≤ n) (bs : List Str) (hbs : ∀ z ∈ bs, LtrZ z) (h8 : n + bs.length ≤ 8) : ∃ (nms : List Str) (k' : Dk), F__law_names [dk k, .fr (.int n), .fr (.lst (bs.map .str))] = some (.ok (.lst (nms.map .str)) [dk k', .fr (.int n), .fr (.lst (bs.map .str))]) ∧ NL bs nms ∧ (nms.length : Int) = n := by
  have H : FEv (F__law_names [dk k, .fr (.int n), .fr (.lst (bs.map .str))]) (@hq _ _ ⟨fun o os => ∃ (nms : List Str) (k' : Dk), o = .lst (nms.map .str) ∧ os = [dk k', .fr (.int n), .fr (.lst (bs.map .str))] ∧ NL bs nms ∧ (nms.length : Int) = n⟩) (fun _ _ => False) := by
    have ri : inR n = true := inR_pos hn (by omega)
    have r9 : inR 9 = true := by decide
    have sb := strs_shp bs hbs
    have lt := letter_ok
    have hs26 : (PySem.Str.ofString "abcdefghijklmnopqrstuvwxyz").length ≤ sizeLine := sz_of (by rw [abc_len]; omega)
    unfold F__law_names G__law_names
    walk_at "ev"
    refine Ev_forL (fun i e => @Dn.hb _ ⟨fun e => ∃ (nms : List Str) (k' : Dk) (q4 q5 q6 : Option O), e = [some (dk k'), some (iO n), some (.fr (.lst (bs.map .str))), some (.lst (nms.map .str)), q4, q5, q6] ∧ NL bs nms ∧ nms.length = i⟩ e) _ (rngD 0 n) _ ⟨[], _, _, _, _, rfl, ⟨fun z h => (List.not_mem_nil h).elim, List.nodup_nil, fun z h => (List.not_mem_nil h).elim⟩, rfl⟩ ?_ ?_
    · rintro i d e hd ⟨nms, k', q4, q5, q6, rfl, hN, hlen⟩
      obtain ⟨rfl, hi⟩ := rng0_get hd
      refine ⟨_, rfl, ?_⟩
      obtain ⟨t, k2, t1, t2, t3, t4⟩ := dtext_ex (lN k') 2 (by omega) (by omega)
      have lb := letter_bd k'
      have s1 : (one (lV k')).length + t.length ≤ sizeLine := sz2_of (by rw [len_one]; omega)
      have hz : LtrZ (one (lV k') ++ t) := fun c hc => by
        rw [zl_app] at hc
        rcases List.mem_append.mp hc with hc | hc
        · rw [List.mem_singleton.mp hc]; exact lb
        · exact t2 c hc
      have hzl : (one (lV k') ++ t).length = 1 + t.length := by rw [len_app, len_one]
      have sn := strs_shp nms fun z hz => (hN.1 z hz).1
      have lsz : i < sizeLine := szl1_of' (by omega)
      have key : Ev (forL (.n 6) B__law_names_0 (rngD 0 9) [some (dk k2), some (iO n), some (.fr (.lst (bs.map .str))), some (.lst (nms.map .str)), some (iO (i : Int)), some (sO (one (lV k') ++ t)), q6]) (fun fl e => fl = .next ∧ ∃ z q6, e = [some (dk k2), some (iO n), some (.fr (.lst (bs.map .str))), some (.lst (nms.map .str)), some (iO (i : Int)), some (sO z), q6] ∧ Nm z ∧ z ∉ nms ∧ z ∉ bs) (fun _ _ => False) := by
        refine Ev_forL (fun j e => @Dn.hb _ ⟨fun e => ∃ (z : Str) (q6 : Option O), e = [some (dk k2), some (iO n), some (.fr (.lst (bs.map .str))), some (.lst (nms.map .str)), some (iO (i : Int)), some (sO z), q6] ∧ LtrZ z ∧ 1 ≤ z.length ∧ z.length ≤ 3 + j ∧ Hist (nms ++ bs) j z⟩ e) _ (rngD 0 9) _ ⟨_, _, rfl, hz, by omega, by omega, Hist.nil⟩ ?_ ?_
        · rintro j d e hd2 ⟨z, q6, rfl, hz, hz1, hz2, hh⟩
          obtain ⟨rfl, hj⟩ := rng0_get hd2
          refine ⟨_, rfl, ?_⟩
          have sz := shp_z hz.ok
          have m7 : mulOk (i : Int) 7 = true := mul_small' (by omega)
          have bm : 0 ≤ ((i : Int) * 7 + (j : Int)).fmod 26 ∧ ((i : Int) * 7 + (j : Int)).fmod 26 < 26 := fm_bd (by omega)
          have am := abc_at bm.1 bm.2
          have g1 := gNotIn_l sz sn
          have g2 := gNotIn_l sz sb
          have s2 : z.length + (one (97 + (((i : Int) * 7 + (j : Int)).fmod 26).toNat)).length ≤ sizeLine := sz2_of (by rw [len_one]; omega)
          have hz3 : LtrZ (z ++ one (97 + (((i : Int) * 7 + (j : Int)).fmod 26).toNat)) := fun c hc => by
            rw [zl_app] at hc
            rcases List.mem_append.mp hc with hc | hc
            · exact hz c hc
            · rw [List.mem_singleton.mp hc]; omega
          have hz4 : (z ++ one (97 + (((i : Int) * 7 + (j : Int)).fmod 26).toNat)).length = z.length + 1 := by rw [len_app, len_one]
          unfold B__law_names_0
          clear hd2 hd hN bm t3 lb
          have hi1 := inL_str z nms
          have hi2 := inL_str z bs
          have nxt : z ∈ nms ++ bs → ∀ q, @Dn.hb _ ⟨fun e => ∃ (z : Str) (q6 : Option O), e = [some (dk k2), some (iO n), some (.fr (.lst (bs.map .str))), some (.lst (nms.map .str)), some (iO (i : Int)), some (sO z), q6] ∧ LtrZ z ∧ 1 ≤ z.length ∧ z.length ≤ 3 + (j + 1) ∧ Hist (nms ++ bs) (j + 1) z⟩ [some (dk k2), some (iO n), some (.fr (.lst (bs.map .str))), some (.lst (nms.map .str)), some (iO (i : Int)), some (sO (z ++ one (97 + (((i : Int) * 7 + (j : Int)).fmod 26).toNat))), q] := fun hm q => ⟨_, _, rfl, hz3, by omega, by omega, hh.snoc hm (by omega)⟩
          have stop : z ∉ nms → z ∉ bs → ∀ q, ∃ z' q6, [some (dk k2), some (iO n), some (.fr (.lst (bs.map .str))), some (.lst (nms.map .str)), some (iO (i : Int)), some (sO z), q] = [some (dk k2), some (iO n), some (.fr (.lst (bs.map .str))), some (.lst (nms.map .str)), some (iO (i : Int)), some (sO z'), q6] ∧ Nm z' ∧ z' ∉ nms ∧ z' ∉ bs := fun h1 h2 q => ⟨_, _, rfl, ⟨hz, hz1, by omega⟩, h1, h2⟩
          clear hz hz1 hz2 hz3 hz4 hzl hh
          cases b1 : inL (.str z) (nms.map .str) with
          | true =>
            have nxt := nxt (List.mem_append_left _ (hi1.mp b1))
            rw [b1] at g1
            clear stop hi1 hi2
            walk_at "ev"
          | false =>
            rw [b1] at g1
            cases b2 : inL (.str z) (bs.map .str) with
            | true =>
              have nxt := nxt (List.mem_append_right _ (hi2.mp b2))
              rw [b2] at g2
              clear stop hi1 hi2
              walk_at "ev"
            | false =>
              rw [b2] at g2
              clear nxt
              have st := stop (fun z => by rw [hi1.mpr z] at b1; cases b1) (fun z => by rw [hi2.mpr z] at b2; cases b2) (some (iO (j : Int)))
              clear stop hi1 hi2
              walk_at "ev"
              simpa using st
        · rintro e ⟨z, q6, rfl, hz, hz1, hz2, hh⟩
          have h9 : (rngD 0 9).length = 9 := by rw [rngD_len]; rfl
          rw [h9] at hh
          have := hh.le
          rw [List.length_append] at this
          omega
      obtain ⟨fl, e3, y1, rfl, z, q6', rfl, hz'⟩ := key.get
      have hN2 : NL bs (nms ++ [z]) := hN.snoc hz'
      have hl2 : (nms ++ [z]).length = i + 1 := by rw [List.length_append, hlen]; rfl
      unfold B__law_names_1
      clear hd hN hz hzl sn lb t3 key hz'
      walk_at "ev"
      exact hbi ⟨nms ++ [z], _, _, _, _, by rw [List.map_append]; rfl, hN2, hl2⟩
    · rintro e ⟨nms, k', q4, q5, q6, rfl, hN, hlen⟩
      rw [rngD_len] at hlen
      have hl2 : (nms.length : Int) = n := by omega
      clear hlen
      walk_at "ev"
      exact hqi ⟨nms, k', rfl, rfl, hN, hl2⟩
  obtain ⟨o, os, h, nms, k', rfl, rfl, h1⟩ := H.get
  exact ⟨nms, k', h, h1⟩
/-- the signs of a pattern -/
def PatZ (z : Str) : Prop := (∀ c ∈ zl z, 97 ≤ c ∧ c ≤ 122 ∨ c = 63 ∨ c = 42) ∧ z.length ≤ 5 ∧ (Txt.count z (one 42) : Int) ≤ 2
theorem cnt_app (z : Str) (c : Nat) : (Txt.count (z ++ one c) (one 42) : Int) = Txt.count z (one 42) + (if c = 42 then 1 else 0) := by
  have h : ∀ x : Str, Txt.count x (one 42) = PyProof.Rows.cnt 42 (zl x) := fun x => PyProof.Rows.count_cnt x 42
  rw [h, h, zl_app]
  have e : zl (one c) = [c] := rfl
  rw [e]
  generalize zl z = l
  induction l with
  | nil => rw [List.nil_append, PyProof.Rows.cnt_cons, PyProof.Rows.cnt_nil]; omega
  | cons n l ih => rw [List.cons_append, PyProof.Rows.cnt_cons, PyProof.Rows.cnt_cons, ih]; omega
theorem PatZ.ok {z : Str} (h : PatZ z) : ∀ c ∈ zl z, c < 1114112 := fun c hc => by have := h.1 c hc; omega
theorem dpat_ex (k : Dk) : ∃ z k', F__law_pattern [dk k] = some (.ok (sO z) [dk k']) ∧ PatZ z ∧ k'.c4 = k.c4 := by
  have H : FEv (F__law_pattern [dk k]) (@hq _ _ ⟨fun o os => ∃ z k', o = sO z ∧ os = [dk k'] ∧ PatZ z ∧ k'.c4 = k.c4⟩) (fun _ _ => False) := by
    have dr := draw_ok
    have bd := draw_bd k (b := 6) (by omega) (by omega)
    have ri : inR (dV k 6) = true := inR_pos bd.1 (by omega)
    have lt := letter_ok
    unfold F__law_pattern G__law_pattern
    walk_at "ev"
    refine Ev_forL (fun i e => @Dn.hb _ ⟨fun e => ∃ (z : Str) (k' : Dk) (q2 q3 : Option O), e = [some (dk k'), some (sO z), q2, q3] ∧ (∀ c ∈ zl z, 97 ≤ c ∧ c ≤ 122 ∨ c = 63 ∨ c = 42) ∧ z.length = i ∧ k'.c4 = k.c4 ∧ (Txt.count z (one 42) : Int) ≤ 2⟩ e) _ (rngD 0 (dV k 6)) _ ⟨_, _, _, _, rfl, fun c h => by rw [zl_e] at h; exact (List.not_mem_nil h).elim, by decide +kernel, draw_c4 _ _, by decide +kernel⟩ ?_ ?_
    · rintro i d e hd ⟨z, k', q2, q3, rfl, hz, hl, hc, hn⟩
      obtain ⟨rfl, hi⟩ := rng0_get hd
      refine ⟨_, rfl, ?_⟩
      have hi5 : i ≤ 5 := by omega
      have sz : ∀ c : Nat, z.length + (one c).length ≤ sizeLine := fun c => sz2_of (by rw [len_one]; omega)
      have nx : ∀ (c : Nat) (k2 : Dk) (q2 q3 : Option O), (97 ≤ c ∧ c ≤ 122 ∨ c = 63 ∨ c = 42) → k2.c4 = k.c4 → (c = 42 → (Txt.count z (one 42) : Int) < 2) → @Dn.hb _ ⟨fun e => ∃ (z : Str) (k' : Dk) (q2 q3 : Option O), e = [some (dk k'), some (sO z), q2, q3] ∧ (∀ c ∈ zl z, 97 ≤ c ∧ c ≤ 122 ∨ c = 63 ∨ c = 42) ∧ z.length = i + 1 ∧ k'.c4 = k.c4 ∧ (Txt.count z (one 42) : Int) ≤ 2⟩ [some (dk k2), some (sO (z ++ one c)), q2, q3] := fun c k2 q2 q3 h1 h2 h3 => ⟨_, _, _, _, rfl, fun e he => by
        rw [zl_app] at he
        rcases List.mem_append.mp he with he | he
        · exact hz e he
        · rw [List.mem_singleton.mp he]; exact h1, by rw [len_app, len_one, hl], h2, by
        rw [cnt_app]
        by_cases e42 : c = 42
        · have := h3 e42; rw [if_pos e42]; omega
        · rw [if_neg e42]; omega⟩
      have e1 : PySem.Str.ofString "?" = one 63 := by decide +kernel
      have e2 : PySem.Str.ofString "*" = one 42 := by decide +kernel
      have n1 := nx 63 (dN k' 5) (some (iO (i : Int))) (some (iO (dV k' 5))) (.inr (.inl rfl)) (by rw [draw_c4, hc]) (fun e => by cases e)
      have n2 : (Txt.count z (one 42) : Int) < 2 → _ := fun h => nx 42 (dN k' 5) (some (iO (i : Int))) (some (iO (dV k' 5))) (.inr (.inr rfl)) (by rw [draw_c4, hc]) (fun _ => h)
      have n3 := nx (lV (dN k' 5)) (lN (dN k' 5)) (some (iO (i : Int))) (some (iO (dV k' 5))) (.inl (letter_bd _)) (by rw [letter_c4, draw_c4, hc]) (fun e => by have := letter_bd (dN k' 5); omega)
      have s1 := sz 63
      have s2 := sz 42
      have s3 := sz (lV (dN k' 5))
      unfold B__law_pattern_0
      clear hd hz hc nx sz hl hn
      by_cases h0 : dV k' 5 = 0
      · clear n2 n3
        rw [h0] at n1
        walk_at "ev"
      · by_cases h1 : dV k' 5 = 1
        · by_cases h2 : (Txt.count z (one 42) : Int) < 2
          · clear n1 n3
            have n2 := n2 h2
            rw [h1] at n2
            walk_at "ev"
          · clear n1 n2
            rw [h1] at n3
            walk_at "ev"
        · clear n1 n2
          walk_at "ev"
    · rintro e ⟨z, k', q2, q3, rfl, hz, hl, hc, hn⟩
      rw [rngD_len] at hl
      have h5 : PatZ z := ⟨hz, by omega, hn⟩
      clear hl hn
      walk_at "ev"
      exact hqi ⟨z, k', rfl, rfl, h5, hc⟩
  obtain ⟨o, os, h, z, k', rfl, rfl, h1⟩ := H.get
  exact ⟨z, k', h, h1⟩
/-- a condition -/
inductive Cn where
  | at0 (w : Bool) | mat (n p : Str) | sam (a b : Str) | emp (a : Str) | nt (c : Cn) | nd (w : Bool) (cs : List Cn)
abbrev sAlw : Str := PySem.Str.ofString "always"
abbrev sNev : Str := PySem.Str.ofString "never"
abbrev sMat : Str := PySem.Str.ofString "matches"
abbrev sSam : Str := PySem.Str.ofString "same"
abbrev sEmp : Str := PySem.Str.ofString "empty"
abbrev sNot : Str := PySem.Str.ofString "not"
abbrev sAnd : Str := PySem.Str.ofString "and"
abbrev sOr : Str := PySem.Str.ofString "or"
def wAt (w : Bool) : Str := if w then sAlw else sNev
def wNd (w : Bool) : Str := if w then sAnd else sOr
mutual
def Cn.d : Cn → D
  | .at0 w => .tup [.str (wAt w)]
  | .mat n p => .tup [.str sMat, .str n, .str p]
  | .sam a b => .tup [.str sSam, .str a, .str b]
  | .emp a => .tup [.str sEmp, .str a]
  | .nt c => .tup [.str sNot, Cn.d c]
  | .nd w cs => .tup (.str (wNd w) :: Cn.ds cs)
def Cn.ds : List Cn → List D
  | [] => []
  | c :: cs => Cn.d c :: Cn.ds cs
end
theorem Cn.ds_map : ∀ cs : List Cn, Cn.ds cs = cs.map Cn.d
  | [] => rfl
  | c :: cs => by rw [Cn.ds, List.map_cons, Cn.ds_map cs]
mutual
def Cn.size : Cn → Nat
  | .nt c => 1 + Cn.size c
  | .nd _ cs => 1 + Cn.sizes cs
  | .at0 _ => 1
  | .mat _ _ => 1
  | .sam _ _ => 1
  | .emp _ => 1
def Cn.sizes : List Cn → Nat
  | [] => 0
  | c :: cs => Cn.size c + Cn.sizes cs
end
theorem Cn.sizes_app : ∀ a b : List Cn, Cn.sizes (a ++ b) = Cn.sizes a + Cn.sizes b
  | [], b => by rw [List.nil_append, Cn.sizes, Nat.zero_add]
  | x :: a, b => by rw [List.cons_append, Cn.sizes, Cn.sizes, Cn.sizes_app a b]; omega
/-- over these names and registers, nested at most so deep -/
inductive COk (N R : List Str) : Nat → Cn → Prop
  | at0 (n w) : COk N R (n + 1) (.at0 w)
  | mat (n a p) : a ∈ N → PatZ p → COk N R (n + 1) (.mat a p)
  | sam (n a b) : a ∈ N → b ∈ N → COk N R (n + 1) (.sam a b)
  | emp (n a) : a ∈ R → COk N R (n + 1) (.emp a)
  | nt (n c) : COk N R n c → COk N R (n + 1) (.nt c)
  | nd (n w cs) : (∀ c ∈ cs, COk N R n c) → COk N R (n + 1) (.nd w cs)
theorem set4a (k : Dk) (n : Int) (a1 a2 a3 a4 a6 a7 : Option O) : sSetIx 0 (eC (.int 4)) (ap gSub [.v (ap gIx [.b 0, .v (eC (.int 4))]), .b 5]) [some (dk k), a1, a2, a3, a4, some (iO n), a6, a7] = some (.ok .next [some (dk (k.s4 (k.c4 - n))), a1, a2, a3, a4, some (iO n), a6, a7]) := by
  have hde := dk_e k
  have hde2 := dk_e (k.s4 (k.c4 - n))
  have e4 := @ix5_4 0
  unfold Dk.s4 at *
  walk_at "ev"
theorem set4b (k : Dk) (es : Sl) : sSetIx 0 (eC (.int 4)) (ap gSub [.v (ap gIx [.b 0, .v (eC (.int 4))]), .v (eC (.int 1))]) (some (dk k) :: es) = some (.ok .next (some (dk (k.s4 (k.c4 - 1))) :: es)) := by
  have hde := dk_e k
  have hde2 := dk_e (k.s4 (k.c4 - 1))
  have e4 := @ix5_4 0
  unfold Dk.s4 at *
  walk_at "ev"
theorem set4c (k : Dk) (v : Int) (es : Sl) : sSetIx 0 (eC (.int 4)) (eC (.int v)) (some (dk k) :: es) = some (.ok .next (some (dk (k.s4 v)) :: es)) := by
  have hde := dk_e k
  have hde2 := dk_e (k.s4 v)
  have e4 := @ix5_4 0
  unfold Dk.s4 at *
  walk_at "ev"
theorem dk_d4 (k : Dk) : gIx [(dk k).d, .int 4] = some (iO k.c4) := by
  rw [dk_d, gIx_l, atI_c4]; rfl
theorem s4_c4 (k : Dk) (v : Int) : (k.s4 v).c4 = v := rfl
local macro_rules | `(tactic| walk_at "evd") => `(tactic| simp [↓set4a, ↓set4b, ↓set4c, dk_d4, s4_c4, eDct0_a, gTab_q, gIx_ds, gIx_di, gIn_ds, gNotIn_ds, gIn_di, gNotIn_di, gGet1_s, gGet1_i, sSetK_a, eDisp_a, gDictC_d, dispL_n, dispL_c, isDct_d, mkF_e, finR_ret, finR_next, finR_ex, FEv_fin, finO_n, finO_c, sSeq_a, sIf_a, sRet_a, sSet_a, sDrop_a, sFor_a, sNext_a, sBrk_a, sCnt_a, tst_a, cAnd_a, cOr_a, cNot_a, ap_a, ops_n, ops_b, ops_v, eC_a, eVar_a, eMove_a, eFz_a, eIf_a, eAnd_a, eOr_a, eNot_a, items_n, items_c, eTup_a, eLst_a, pure_a, stuck_a, bind_a, eCall_e, callR_ok, callR_ex, Ev_callR, cops_n, cops_b, cops_v, wb, thn_ok, thn_ex, thn_none, ↓Ev_d, ↓FEv_d, Ev_thn, Ev_ok, Ev_ex, Ev_none, FEv_ok, FEv_ex, FEv_none, getO_nil, getO_0, getO_0n, getO_s, gAdd_i, gAdd_z, gAdd_l, gAdd_t, gAddI_i, gSub_i, gMul_i, gMulS_q, gDiv_i, gMod_i, gPow_i, gNeg_i, gEq_i, gEq_z, gEq_b, gNe_i, gNe_z, gNe_b, gEq_l, gEq_t, gEq_s, gEq_n, gNe_l, gNe_t, gNe_s, gNe_n, gLt_i, gLtX_i, gLtX_z, gLtX_t, gLtX_l, gGt_i, gLe_i, gGe_i, gLt_t, gGt_t, gLe_t, gGe_t, gLt_l, gGt_l, gLe_l, gGe_l, gLt_z, gGt_z, gLe_z, gGe_z, gIsN_n, gIsN_b, gIsN_i, gIsN_z, gIsN_l, gIsN_t, gIsN_s, gIsN_bb, gNotN_n, gNotN_b, gNotN_i, gNotN_z, gNotN_l, gNotN_t, gNotN_s, gNotN_bb, gIn_z, gIn_l, gIn_t, gNotIn_z, gNotIn_l, gNotIn_t, gIx_l, gIx_t, gIx_s, gIx_z, gLen_l, gLen_t, gLen_s, gLen_z, gInt_i, gInt_b, gOrd_1, gListX_z, gListX_l, gListX_t, gListX_s, gList_l, gList_t, gList_s, gTuple_l, gTuple_t, gApp_q, gPop0_q, gExt_q, gRev_q, gIsi_q, gSl00, gSl10, gSl01, gSl11, slD_l, slD_t, slD_s, slD_z, gRevS_l, gCount_z, gStarts_z, gRstrip_z, seqD_l, seqD_t, seqD_s, seqD_z, sRng1_e, sRng2_e, rgR1_q, rgR2_q, sSeqD_a, isStr, sEnum_a, eComp_e, lcR_ok, Ev_lcR, wipeE_n, wipeE_c, restE_n, restE_c, eMut1_a, eMut0_a, sSetIx_a, eChain_a, tru_a, sAug_a, sSetT_a, apM_b, apM_v, eI_a, Tg.go, gMax2_i, gIns0_q, gStr1_i, gAbs_i, truD_bl, truD_l, truD_t, gEq_iz, gEq_zi, gNe_iz, gNe_zi, atI_c0, atI_c1, atI_c2, atI_c3, atI_c4, atI_c5, isi_int_non, isi_int_bl, isi_int_int, isi_int_str, isi_int_lst, isi_int_scr, isi_int_tup, isi_bool_non, isi_bool_bl, isi_bool_int, isi_bool_str, isi_bool_lst, isi_bool_scr, isi_bool_tup, isi_str_non, isi_str_bl, isi_str_int, isi_str_str, isi_str_lst, isi_str_scr, isi_str_tup, isi_list_non, isi_list_bl, isi_list_int, isi_list_str, isi_list_lst, isi_list_scr, isi_list_tup, isi_tuple_non, isi_tuple_bl, isi_tuple_int, isi_tuple_str, isi_tuple_lst, isi_tuple_scr, isi_tuple_tup, *])
theorem strs_at (zs : List Str) {v : Int} (h0 : 0 ≤ v) (h1 : v < zs.length) : ∃ a ∈ zs, atI (zs.map D.str) v = some (.str a) := by
  obtain ⟨n, rfl⟩ := Int.eq_ofNat_of_zero_le h0
  have hn : n < zs.length := by omega
  exact ⟨zs[n], List.getElem_mem hn, by rw [atI_cn, List.getElem?_map, List.getElem?_eq_getElem hn]; rfl⟩
theorem str_in {z : Str} {zs : List Str} (hz : ∀ c ∈ zl z, c < 1114112) (hs : ∀ y ∈ zs, ∀ c ∈ zl y, c < 1114112) : gIn [.str z, .lst (zs.map .str)] = some (bO (decide (z ∈ zs))) := by
  have s2 : shp (.lst (zs.map .str)) = true := (shp_lst (k := 0) fun x hx => let ⟨y, hy, e⟩ := List.mem_map.mp hx; e ▸ shp_str (hs y hy)).shp (by omega)
  rw [gIn_l (shp_z hz) s2]
  congr 2
  have := inL_pl (x := .str z) (ds := zs.map .str) (by rw [D.pl]) fun d hd => let ⟨y, hy, e⟩ := List.mem_map.mp hd; e ▸ (by rw [D.pl])
  have h2 : D.str z ∈ zs.map D.str ↔ z ∈ zs := by
    rw [List.mem_map]
    exact ⟨fun ⟨y, hy, e⟩ => by injection e with e; exact e ▸ hy, fun h => ⟨z, h, rfl⟩⟩
  rw [h2] at this
  by_cases h : z ∈ zs
  · rw [decide_eq_true h]; exact this.mpr h
  · rw [decide_eq_false h]; exact Bool.eq_false_iff.mpr fun w => h (this.mp w)
theorem words_ok : ∀ z ∈ [sAlw, sNev, sMat, sSam, sEmp, sNot, sAnd, sOr], ∀ c ∈ zl z, c < 1114112 := by decide +kernel
/-- the word of a condition -/
def Cn.w : Cn → Str
  | .at0 w => wAt w
  | .mat _ _ => sMat
  | .sam _ _ => sSam
  | .emp _ => sEmp
  | .nt _ => sNot
  | .nd w _ => wNd w
def Cn.tl : Cn → List D
  | .at0 _ => []
  | .mat n p => [.str n, .str p]
  | .sam a b => [.str a, .str b]
  | .emp a => [.str a]
  | .nt c => [c.d]
  | .nd _ cs => Cn.ds cs
theorem Cn.d_e : ∀ c : Cn, c.d = .tup (.str c.w :: c.tl)
  | .at0 _ => by rw [Cn.d]; rfl
  | .mat _ _ => by rw [Cn.d]; rfl
  | .sam _ _ => by rw [Cn.d]; rfl
  | .emp _ => by rw [Cn.d]; rfl
  | .nt _ => by rw [Cn.d]; rfl
  | .nd _ _ => by rw [Cn.d]; rfl
theorem Cn.w_mem (c : Cn) : c.w ∈ [sAlw, sNev, sMat, sSam, sEmp, sNot, sAnd, sOr] := by
  cases c with
  | at0 w => cases w <;> decide +kernel
  | nd w _ => show wNd w ∈ _; cases w <;> decide +kernel
  | mat _ _ => show sMat ∈ _; decide +kernel
  | sam _ _ => show sSam ∈ _; decide +kernel
  | emp _ => show sEmp ∈ _; decide +kernel
  | nt _ => show sNot ∈ _; decide +kernel
theorem Cn.w_ok (c : Cn) : ∀ x ∈ zl c.w, x < 1114112 := words_ok _ c.w_mem
theorem Cn.w_one {c : Cn} (h : c.w ∈ [sMat, sEmp, sNev]) : c.size = 1 := by
  cases c with
  | nd w _ =>
    have h' : wNd w ∈ [sMat, sEmp, sNev] := h
    cases w <;> (exact absurd h' (by decide +kernel))
  | nt _ =>
    have h' : sNot ∈ [sMat, sEmp, sNev] := h
    exact absurd h' (by decide +kernel)
  | at0 _ => rw [Cn.size]
  | mat _ _ => rw [Cn.size]
  | sam _ _ => rw [Cn.size]
  | emp _ => rw [Cn.size]
theorem sz_pos : ∀ c : Cn, 1 ≤ c.size := fun c => by cases c <;> simp [Cn.size] <;> omega
theorem szs_len : ∀ cs : List Cn, cs.length ≤ Cn.sizes cs
  | [] => by simp [Cn.sizes]
  | c :: cs => by have := szs_len cs; have := sz_pos c; rw [List.length_cons, Cn.sizes]; omega
theorem dpart_ex (N R : O) (nms regs : List Str) (hN : N.d = .lst (nms.map .str)) (hR : R.d = .lst (regs.map .str)) (hn0 : 0 < nms.length) (hnl : nms.length ≤ 100) (hrl : regs.length ≤ 100) : ∀ (n : Nat) (k : Dk) (dp : Nat), 1 ≤ dp → dp ≤ n → 0 ≤ k.c4 → k.c4 ≤ 100 →
    ∃ (c : Cn) (k' : Dk), F__law_part n [dk k, N, R, .fr (.int dp)] = some (.ok (.fr c.d) [dk k', N, R, .fr (.int dp)]) ∧ COk nms regs dp c ∧ 0 ≤ k'.c4 ∧ (c.size : Int) + k'.c4 ≤ 1 + k.c4
  | 0, _, dp, h1, h2, _, _ => by omega
  | n + 1, k, dp, hd1, hd2, hk0, hk1 => by
    have ih := dpart_ex N R nms regs hN hR hn0 hnl hrl n
    obtain ⟨dp', rfl⟩ : ∃ d, dp = d + 1 := ⟨dp - 1, by omega⟩
    have H : FEv (F__law_part (n + 1) [dk k, N, R, .fr (.int ((dp' + 1 : Nat) : Int))]) (@hq _ _ ⟨fun o os => ∃ (c : Cn) (k' : Dk), o = .fr c.d ∧ os = [dk k', N, R, .fr (.int ((dp' + 1 : Nat) : Int))] ∧ COk nms regs (dp' + 1) c ∧ 0 ≤ k'.c4 ∧ (c.size : Int) + k'.c4 ≤ 1 + k.c4⟩) (fun _ _ => False) := by
      have dr := draw_ok
      have bd9 := draw_bd k (b := 9) (by omega) (by omega)
      have hsub : ((dp' + 1 : Nat) : Int) - 1 = (dp' : Int) := by omega
      unfold F__law_part G__law_part
      generalize hDP : ((dp' + 1 : Nat) : Int) = DP at *
      -- what is told when nothing is nested
      have flat : ∀ (c : Cn) (k' : Dk), COk nms regs (dp' + 1) c → c.size = 1 → k'.c4 = k.c4 → @hq O (List O) ⟨fun o os => ∃ (c : Cn) (k' : Dk), o = .fr c.d ∧ os = [dk k', N, R, .fr (.int DP)] ∧ COk nms regs (dp' + 1) c ∧ 0 ≤ k'.c4 ∧ (c.size : Int) + k'.c4 ≤ 1 + k.c4⟩ (.fr c.d) [dk k', N, R, .fr (.int DP)] := fun c k' h1 h2 h3 => ⟨c, k', rfl, rfl, h1, by omega, by omega⟩
      have nat : ∀ k1 : Dk, ∃ a ∈ nms, atI (nms.map D.str) (dV k1 nms.length) = some (.str a) := fun k1 => let b := draw_bd k1 (b := (nms.length : Int)) (by omega) (by omega); strs_at nms b.1 b.2
      have drn : ∀ k1 : Dk, F__law_draw [dk k1, .fr (.int nms.length)] = some (.ok (iO (dV k1 nms.length)) [dk (dN k1 nms.length), .fr (.int nms.length)]) := fun k1 => draw_ok k1 _ (by omega) (by omega)
      have mats : 3 ≤ dV k 9 ∨ ¬ 1 < DP → dV k 9 < 6 → (dV k 9 = 3 → ¬ (1 < DP ∧ 0 < k.c4)) → Ev (G__law_part (F__law_part n) [some (dk k), some N, some R, some (iO DP), none, none, none, none]) (fun fl e => match fl with
          | .ret o => @hq O (List O) ⟨fun o os => ∃ (c : Cn) (k' : Dk), o = .fr c.d ∧ os = [dk k', N, R, .fr (.int DP)] ∧ COk nms regs (dp' + 1) c ∧ 0 ≤ k'.c4 ∧ (c.size : Int) + k'.c4 ≤ 1 + k.c4⟩ o [dk k, N, R, .fr (.int DP)]
          | _ => False) (fun _ _ => False) → True := fun _ _ _ _ => trivial
      clear mats
      by_cases hA : dV k 9 < 3 ∧ 1 < DP
      · obtain ⟨hA1, hA2⟩ := hA
        -- the parts
        have parts : ∀ (kk : Dk) (cnt : Int) (q4 q6 : Option O), 0 ≤ cnt → cnt ≤ kk.c4 → kk.c4 ≤ 100 → ∃ (cs : List Cn) (k5 : Dk), lcL [7] (.n 7) cYes (C__law_part_0 (F__law_part n)) (rngD 0 cnt) [] [some (dk (kk.s4 (kk.c4 - cnt))), some N, some R, some (iO DP), q4, some (iO cnt), q6, none] = some (Cn.ds cs, [some (dk k5), some N, some R, some (iO DP), q4, some (iO cnt), q6, none]) ∧ (∀ c ∈ cs, COk nms regs dp' c) ∧ (cs.length : Int) = cnt ∧ 0 ≤ k5.c4 ∧ (Cn.sizes cs : Int) + k5.c4 ≤ kk.c4 := by
          intro kk cnt q4 q6 h0 h1 h2
          obtain ⟨xs, e', c1, c2, cs, k5, rfl, rfl, c3, c4, c5⟩ := lc_acc (own := [7]) (tg := .n 7) (f := C__law_part_0 (F__law_part n)) (fun acc e => ∃ (cs : List Cn) (k5 : Dk), acc = cs.map Cn.d ∧ e = [some (dk k5), some N, some R, some (iO DP), q4, some (iO cnt), q6, none] ∧ (∀ c ∈ cs, COk nms regs dp' c) ∧ 0 ≤ k5.c4 ∧ (Cn.sizes cs : Int) + k5.c4 ≤ (kk.c4 - cnt) + cs.length) (rngD 0 cnt) [some (dk (kk.s4 (kk.c4 - cnt))), some N, some R, some (iO DP), q4, some (iO cnt), q6, none] (by rw [rngD_len]; omega) (fun d hd acc e ⟨cs, k1, e1, e2, e3, e4, e5⟩ => by
            subst e1 e2
            have hsl := szs_len cs
            obtain ⟨c, k2, p1, p2, p3, p4⟩ := ih k1 dp' (by omega) (by omega) e4 (by omega)
            refine ⟨_, rfl, ?_⟩
            have fin : @hq (List D) Sl ⟨fun acc e => ∃ (cs : List Cn) (k5 : Dk), acc = cs.map Cn.d ∧ e = [some (dk k5), some N, some R, some (iO DP), q4, some (iO cnt), q6, none] ∧ (∀ c ∈ cs, COk nms regs dp' c) ∧ 0 ≤ k5.c4 ∧ (Cn.sizes cs : Int) + k5.c4 ≤ (kk.c4 - cnt) + cs.length⟩ (cs.map Cn.d ++ [c.d]) [some (dk k2), some N, some R, some (iO DP), q4, some (iO cnt), q6, none] := ⟨cs ++ [c], k2, by rw [List.map_append]; rfl, rfl, fun c' hc => (List.mem_append.mp hc).elim (e3 c') fun h => by rw [List.mem_singleton.mp h]; exact p2, p3, by rw [Cn.sizes_app, Cn.sizes, Cn.sizes, List.length_append]; simp only [List.length_cons, List.length_nil]; omega⟩
            show Ev _ (fun (o : O) e3 => @hq (List D) Sl ⟨fun acc e => ∃ (cs : List Cn) (k5 : Dk), acc = cs.map Cn.d ∧ e = [some (dk k5), some N, some R, some (iO DP), q4, some (iO cnt), q6, none] ∧ (∀ c ∈ cs, COk nms regs dp' c) ∧ 0 ≤ k5.c4 ∧ (Cn.sizes cs : Int) + k5.c4 ≤ (kk.c4 - cnt) + cs.length⟩ (cs.map Cn.d ++ [o.d]) (wipeE e3 [7])) _
            unfold C__law_part_0
            clear hd e3 e5 p4
            walk_at "evd") ⟨[], _, rfl, rfl, fun c h => (List.not_mem_nil h).elim, by rw [s4_c4]; omega, by rw [s4_c4]; simp [Cn.sizes]⟩
          rw [List.length_map, rngD_len] at c2
          exact ⟨cs, k5, by rw [c1, Cn.ds_map], c3, by omega, c4, by omega⟩
        -- behind the parts
        have fin : ∀ (cs : List Cn) (w : Bool) (k6 : Dk), (∀ c ∈ cs, COk nms regs dp' c) → 0 ≤ k6.c4 → (Cn.sizes cs : Int) + k6.c4 ≤ k.c4 → @hq O (List O) ⟨fun o os => ∃ (c : Cn) (k' : Dk), o = .fr c.d ∧ os = [dk k', N, R, .fr (.int DP)] ∧ COk nms regs (dp' + 1) c ∧ 0 ≤ k'.c4 ∧ (c.size : Int) + k'.c4 ≤ 1 + k.c4⟩ (.fr (.tup (.str (wNd w) :: Cn.ds cs))) [dk k6, N, R, .fr (.int DP)] := fun cs w k6 h1 h2 h3 => ⟨.nd w cs, k6, by rw [Cn.d], rfl, .nd _ _ _ h1, h2, by rw [Cn.size]; omega⟩
        have ds_len : ∀ cs : List Cn, (Cn.ds cs).length = cs.length := fun cs => by rw [Cn.ds_map, List.length_map]
        have cnt : ∃ (kk : Dk) (cnt : Int), 0 ≤ cnt ∧ kk.c4 = k.c4 ∧ (dV (dN (dN k 9) 4) 12 = 0 ∧ kk = dN (dN (dN (dN k 9) 4) 12) 15 ∧ cnt = 5 + dV (dN (dN (dN k 9) 4) 12) 15 ∨ ¬ dV (dN (dN k 9) 4) 12 = 0 ∧ kk = dN (dN (dN k 9) 4) 12 ∧ cnt = dV (dN k 9) 4) := by
          by_cases h : dV (dN (dN k 9) 4) 12 = 0
          · have := draw_bd (dN (dN (dN k 9) 4) 12) (b := 15) (by omega) (by omega)
            exact ⟨_, _, by omega, by simp only [draw_c4], .inl ⟨h, rfl, rfl⟩⟩
          · have := draw_bd (dN k 9) (b := 4) (by omega) (by omega)
            exact ⟨_, _, by omega, by simp only [draw_c4], .inr ⟨h, rfl, rfl⟩⟩
        obtain ⟨kk, cn0, n0, n1, n2⟩ := cnt
        obtain ⟨cn, m1, m2, m3⟩ : ∃ cn : Int, gMin2 [.int cn0, .int kk.c4] = some (iO cn) ∧ 0 ≤ cn ∧ cn ≤ kk.c4 := by
          rw [gMin2_i]
          by_cases h : kk.c4 < cn0
          · exact ⟨_, by rw [if_pos h], by omega, by omega⟩
          · exact ⟨_, by rw [if_neg h], n0, by omega⟩
        obtain ⟨cs, k5, p1, p2, p3, p4, p5⟩ := parts kk cn (some (iO (dV k 9))) none m2 m3 (by omega)
        have ri : inR cn = true := inR_pos m2 (by omega)
        have bd2 := draw_bd k5 (b := 2) (by omega) (by omega)
        have bd2' := draw_bd (k5.s4 (k5.c4 - 1)) (b := 2) (by omega) (by omega)
        have hw : ∀ v : Int, 0 ≤ v ∧ v < 2 → ∃ w, atI [D.str sAnd, D.str sOr] v = some (.str (wNd w)) := fun v hv => by
          have : v = 0 ∨ v = 1 := by omega
          rcases this with rfl | rfl
          · exact ⟨true, rfl⟩
          · exact ⟨false, rfl⟩
        obtain ⟨w, hw1⟩ := hw _ bd2
        obtain ⟨w', hw1'⟩ := hw _ bd2'
        have sl := szs_len cs
        have lz : 1 + (Cn.ds cs).length ≤ sizeLine := by rw [ds_len, sizeLine_eq]; omega
        have lz' : (Cn.ds cs).length + 1 ≤ sizeLine := by rw [ds_len, sizeLine_eq]; omega
        have lz2 : (Cn.ds cs).length < sizeLine := by rw [ds_len, sizeLine_eq]; omega
        have lz3 : (Cn.ds cs).length + 1 + 1 ≤ sizeLine := by rw [ds_len, sizeLine_eq]; omega
        have f1 := fin cs w (dN k5 2) p2 (by rw [draw_c4]; exact p4) (by rw [draw_c4]; omega)
        -- is the first one taken twice
        by_cases hdo : ∃ c0 cs', cs = c0 :: cs' ∧ 0 < k5.c4 ∧ c0.tl.length + 1 < 4 ∧ c0.w ∈ [sMat, sEmp, sNev]
        · obtain ⟨c0, cs', rfl, q1, q2, q3⟩ := hdo
          have hin : gIn [.str c0.w, .lst [.str (PySem.Str.ofString "matches"), .str (PySem.Str.ofString "empty"), .str (PySem.Str.ofString "never")]] = some (bO (decide (c0.w ∈ [sMat, sEmp, sNev]))) := str_in (z := c0.w) (zs := [sMat, sEmp, sNev]) c0.w_ok (by decide +kernel)
          rw [decide_eq_true q3] at hin
          have hcd := c0.d_e
          have hds : Cn.ds (c0 :: cs') = c0.d :: Cn.ds cs' := by rw [Cn.ds]
          have hds2 : Cn.ds (c0 :: cs' ++ [c0]) = c0.d :: (Cn.ds cs' ++ [c0.d]) := by rw [Cn.ds_map, Cn.ds_map]; simp
          have one := Cn.w_one q3
          have f2 := fin (c0 :: cs' ++ [c0]) w' (dN (k5.s4 (k5.c4 - 1)) 2) (fun c hc => (List.mem_append.mp hc).elim (p2 c) fun h => by rw [List.mem_singleton.mp h]; exact p2 _ List.mem_cons_self) (by rw [draw_c4, s4_c4]; omega) (by rw [draw_c4, s4_c4]; simp only [Cn.sizes_app, Cn.sizes, one] at p5 ⊢; omega)
          have hcn : 0 < cn := by rw [List.length_cons] at p3; omega
          rw [hds2] at f2
          rw [hds] at p1 lz lz' lz2 lz3
          rw [hcd] at p1 f2 lz lz' lz2 lz3
          rw [List.length_cons] at lz lz' lz2 lz3
          have lz4 : 1 + ((Cn.ds cs').length + 1 + 1) ≤ sizeLine := by omega
          have lz5 : (Cn.ds cs').length + 1 + 1 + 1 ≤ sizeLine := by omega
          have q2' : (c0.tl.length : Int) + 1 < 4 := by omega
          clear n1 fin parts flat nat drn ih f1 p2 p3 p5 sl hw bd2 bd2' bd9 hw1 hds hds2 q3 hcd ds_len hk0 hk1 hN hR one
          rcases n2 with ⟨n2, rfl, rfl⟩ | ⟨n2, rfl, rfl⟩
          · walk_at "evd"
            all_goals exact f2
          · walk_at "evd"
            all_goals exact f2
        · -- it is not
          have hno : (¬ 0 < cn) ∨ ∃ c0 cs', cs = c0 :: cs' ∧ (¬ 0 < k5.c4 ∨ ¬ c0.tl.length + 1 < 4 ∨ ¬ c0.w ∈ [sMat, sEmp, sNev]) := by
            by_cases hcn : 0 < cn
            · refine .inr ?_
              cases cs with
              | nil => simp at p3; omega
              | cons c0 cs' =>
                refine ⟨c0, cs', rfl, ?_⟩
                by_cases a1 : 0 < k5.c4
                · by_cases a2 : c0.tl.length + 1 < 4
                  · by_cases a3 : c0.w ∈ [sMat, sEmp, sNev]
                    · exact absurd ⟨c0, cs', rfl, a1, a2, a3⟩ hdo
                    · exact .inr (.inr a3)
                  · exact .inr (.inl a2)
                · exact .inl a1
            · exact .inl hcn
          clear n1 fin parts flat nat drn ih p2 p5 sl hw bd2 bd2' bd9 hw1' hdo hk0 hk1 hN hR
          rcases hno with hcn | ⟨c0, cs', rfl, hno⟩
          · clear p3 ds_len
            rcases n2 with ⟨n2, rfl, rfl⟩ | ⟨n2, rfl, rfl⟩
            · walk_at "evd"
            · walk_at "evd"
          · have hin : gIn [.str c0.w, .lst [.str (PySem.Str.ofString "matches"), .str (PySem.Str.ofString "empty"), .str (PySem.Str.ofString "never")]] = some (bO (decide (c0.w ∈ [sMat, sEmp, sNev]))) := str_in (z := c0.w) (zs := [sMat, sEmp, sNev]) c0.w_ok (by decide +kernel)
            have hcd := c0.d_e
            have hds : Cn.ds (c0 :: cs') = c0.d :: Cn.ds cs' := by rw [Cn.ds]
            have hcn : 0 < cn := by rw [List.length_cons] at p3; omega
            rw [hds] at p1 f1 lz lz' lz2 lz3
            rw [hcd] at p1 f1 lz lz' lz2 lz3
            rw [List.length_cons] at lz lz' lz2 lz3
            clear ds_len hds p3 hcd
            rcases hno with a1 | a1
            · clear hin
              rcases n2 with ⟨n2, rfl, rfl⟩ | ⟨n2, rfl, rfl⟩
              · walk_at "evd"
              · walk_at "evd"
            · by_cases a0 : 0 < k5.c4
              · by_cases a2 : (c0.tl.length : Int) + 1 < 4
                · have a3 : ¬ c0.w ∈ [sMat, sEmp, sNev] := a1.elim (fun z => absurd (by omega) z) id
                  rw [decide_eq_false a3] at hin
                  clear a1 a3
                  rcases n2 with ⟨n2, rfl, rfl⟩ | ⟨n2, rfl, rfl⟩
                  · walk_at "evd"
                    all_goals exact f1
                  · walk_at "evd"
                    all_goals exact f1
                · clear hin a1
                  rcases n2 with ⟨n2, rfl, rfl⟩ | ⟨n2, rfl, rfl⟩
                  · walk_at "evd"
                    all_goals exact f1
                  · walk_at "evd"
                    all_goals exact f1
              · clear hin a1
                rcases n2 with ⟨n2, rfl, rfl⟩ | ⟨n2, rfl, rfl⟩
                · walk_at "evd"
                  all_goals exact f1
                · walk_at "evd"
                  all_goals exact f1
      · have c4e := draw_c4
        by_cases hB : dV k 9 = 3 ∧ 1 < DP ∧ 0 < k.c4
        · obtain ⟨hB1, hB2, hB3⟩ := hB
          obtain ⟨c, k2, p1, p2, p3, p4⟩ := ih ((dN k 9).s4 ((dN k 9).c4 - 1)) dp' (by omega) (by omega) (by rw [s4_c4, draw_c4]; omega) (by rw [s4_c4, draw_c4]; omega)
          rw [s4_c4] at p4
          rw [draw_c4] at p4
          have fin : @hq O (List O) ⟨fun o os => ∃ (c : Cn) (k' : Dk), o = .fr c.d ∧ os = [dk k', N, R, .fr (.int DP)] ∧ COk nms regs (dp' + 1) c ∧ 0 ≤ k'.c4 ∧ (c.size : Int) + k'.c4 ≤ 1 + k.c4⟩ (.fr (.tup [.str sNot, c.d])) [dk k2, N, R, .fr (.int DP)] := ⟨.nt c, k2, by rw [Cn.d], rfl, .nt _ _ p2, p3, by rw [Cn.size]; omega⟩
          rw [draw_c4] at p1
          clear flat nat drn ih p2 p4 bd9 hA
          walk_at "evd"
          all_goals exact fin
        · by_cases hC : dV k 9 < 6
          · obtain ⟨a, am, ha⟩ := nat (dN k 9)
            obtain ⟨z, k2, z1, z2, z3⟩ := dpat_ex (dN (dN k 9) nms.length)
            have f1 := flat (.mat a z) k2 (.mat _ _ _ am z2) rfl (by rw [z3, draw_c4, draw_c4])
            have e1 : (Cn.mat a z).d = .tup [.str sMat, .str a, .str z] := by rw [Cn.d]
            rw [e1] at f1
            have d1 := drn (dN k 9)
            have cA : ¬ (dV k 9 < 3) ∨ ¬ 1 < DP := by
              by_cases h : dV k 9 < 3
              · exact .inr fun z => hA ⟨h, z⟩
              · exact .inl h
            have cB : ¬ dV k 9 = 3 ∨ ¬ 1 < DP ∨ ¬ 0 < k.c4 := by
              by_cases h : dV k 9 = 3
              · by_cases h2 : 1 < DP
                · exact .inr (.inr fun z => hB ⟨h, h2, z⟩)
                · exact .inr (.inl h2)
              · exact .inl h
            clear flat nat drn ih bd9 hA hB z2 z3 am e1 hk0 hk1 hsub hDP hd1 hd2
            rcases cA with cA | cA
            · rcases cB with cB | cB | cB
              · walk_at "evd"
                all_goals exact f1
              · by_cases cB' : dV k 9 = 3
                · rw [cB'] at *
                  walk_at "evd"
                  all_goals exact f1
                · walk_at "evd"
                  all_goals exact f1
              · by_cases cB' : dV k 9 = 3
                · rw [cB'] at *
                  by_cases cD : 1 < DP
                  · walk_at "evd"
                    all_goals exact f1
                  · walk_at "evd"
                    all_goals exact f1
                · walk_at "evd"
                  all_goals exact f1
            · by_cases cB' : dV k 9 = 3
              · rw [cB'] at *
                walk_at "evd"
                all_goals exact f1
              · by_cases cA' : dV k 9 < 3
                · walk_at "evd"
                  all_goals exact f1
                · walk_at "evd"
                  all_goals exact f1
          · have n3 : ¬ dV k 9 < 3 := by omega
            have n33 : ¬ dV k 9 = 3 := by omega
            by_cases h6 : dV k 9 = 6
            · obtain ⟨a, am, ha⟩ := nat (dN k 9)
              obtain ⟨b, bm, hb⟩ := nat (dN (dN k 9) nms.length)
              have f1 := flat (.sam a b) (dN (dN (dN k 9) nms.length) nms.length) (.sam _ _ _ am bm) rfl (by simp only [draw_c4])
              have e1 : (Cn.sam a b).d = .tup [.str sSam, .str a, .str b] := by rw [Cn.d]
              rw [e1] at f1
              have d1 := drn (dN k 9)
              have d2 := drn (dN (dN k 9) nms.length)
              clear flat nat drn ih bd9 hA hB am bm e1 hk0 hk1 hsub hDP hd1 hd2 hC n3 n33
              walk_at "evd"
              all_goals exact f1
            · have bdw := draw_bd (dN k 9) (b := 2) (by omega) (by omega)
              have hw : ∃ w, atI [D.str sAlw, D.str sNev] (dV (dN k 9) 2) = some (.str (wAt w)) := by
                have : dV (dN k 9) 2 = 0 ∨ dV (dN k 9) 2 = 1 := by omega
                rcases this with h | h
                · rw [h]; exact ⟨true, rfl⟩
                · rw [h]; exact ⟨false, rfl⟩
              obtain ⟨w, hw⟩ := hw
              have f2 := flat (.at0 w) (dN (dN k 9) 2) (.at0 _ _) rfl (by simp only [draw_c4])
              have e2 : (Cn.at0 w).d = .tup [.str (wAt w)] := by rw [Cn.d]
              rw [e2] at f2
              by_cases h7 : dV k 9 = 7
              · by_cases hr : 0 < regs.length
                · have b := draw_bd (dN k 9) (b := (regs.length : Int)) (by omega) (by omega)
                  obtain ⟨a, am, ha⟩ := strs_at regs b.1 b.2
                  have f1 := flat (.emp a) (dN (dN k 9) regs.length) (.emp _ _ am) rfl (by simp only [draw_c4])
                  have e1 : (Cn.emp a).d = .tup [.str sEmp, .str a] := by rw [Cn.d]
                  rw [e1] at f1
                  have d1 := draw_ok (dN k 9) regs.length (by omega) (by omega)
                  have hr' : ¬ regs.length = 0 := by omega
                  clear flat nat drn ih bd9 hA hB am e1 hk0 hk1 hsub hDP hd1 hd2 hC n3 n33 h6 f2 e2 hw bdw b
                  walk_at "evd"
                  all_goals exact f1
                · clear flat nat drn ih bd9 hA hB hk0 hk1 hsub hDP hd1 hd2 hC n3 n33 h6 e2 bdw
                  walk_at "evd"
                  all_goals exact f2
              · clear flat nat drn ih bd9 hA hB hk0 hk1 hsub hDP hd1 hd2 e2 bdw
                walk_at "evd"
                all_goals exact f2
    obtain ⟨o, os, h, c, k', rfl, rfl, h1⟩ := H.get
    exact ⟨c, k', h, h1⟩
theorem dcond_ex (N R : O) (nms regs : List Str) (hN : N.d = .lst (nms.map .str)) (hR : R.d = .lst (regs.map .str)) (hn0 : 0 < nms.length) (hnl : nms.length ≤ 100) (hrl : regs.length ≤ 100) (k : Dk) (dp : Nat) (h1 : 1 ≤ dp) (h2 : dp ≤ 40) :
    ∃ (c : Cn) (k' : Dk), F__law_condition [dk k, N, R, .fr (.int dp)] = some (.ok (.fr c.d) [dk k', N, R, .fr (.int dp)]) ∧ COk nms regs dp c ∧ c.size ≤ 20 := by
  have H : FEv (F__law_condition [dk k, N, R, .fr (.int dp)]) (@hq _ _ ⟨fun o os => ∃ (c : Cn) (k' : Dk), o = .fr c.d ∧ os = [dk k', N, R, .fr (.int dp)] ∧ COk nms regs dp c ∧ c.size ≤ 20⟩) (fun _ _ => False) := by
    obtain ⟨c, k', p1, p2, p3, p4⟩ := dpart_ex N R nms regs hN hR hn0 hnl hrl 40 (k.s4 19) dp h1 h2 (by rw [s4_c4]; omega) (by rw [s4_c4]; omega)
    rw [s4_c4] at p4
    have p5 : c.size ≤ 20 := by omega
    unfold F__law_condition G__law_condition
    clear p4 p3 hN hR
    walk_at "evd"
    exact hqi ⟨c, k', rfl, rfl, p2, p5⟩
  obtain ⟨o, os, h, c, k', rfl, rfl, h1⟩ := H.get
  exact ⟨c, k', h, h1⟩
/-- the conditions directly inside -/
def Cn.parts : Cn → List Cn
  | .nt c => [c]
  | .nd _ cs => cs
  | _ => []
theorem COk.dp {N R : List Str} {n : Nat} {c : Cn} (h : COk N R n c) : ∃ m, n = m + 1 ∧ ∀ p ∈ c.parts, COk N R m p := by
  cases h with
  | at0 m w => exact ⟨m, rfl, fun p hp => (List.not_mem_nil hp).elim⟩
  | mat m a p _ _ => exact ⟨m, rfl, fun p hp => (List.not_mem_nil hp).elim⟩
  | sam m a b _ _ => exact ⟨m, rfl, fun p hp => (List.not_mem_nil hp).elim⟩
  | emp m a _ => exact ⟨m, rfl, fun p hp => (List.not_mem_nil hp).elim⟩
  | nt m c h => exact ⟨m, rfl, fun p hp => by rw [List.mem_singleton.mp hp]; exact h⟩
  | nd m w cs h => exact ⟨m, rfl, h⟩
theorem Cn.wb (c : Cn) : (c.w ∈ [sAnd, sOr, sNot]) ∨ ¬ c.w ∈ [sAnd, sOr, sNot] := Decidable.em _
theorem Cn.w_in {c : Cn} : (c.w ∈ [sAnd, sOr, sNot] → c.tl = c.parts.map Cn.d) ∧ (¬ c.w ∈ [sAnd, sOr, sNot] → c.parts = []) := by
  cases c with
  | at0 w => exact ⟨fun h => absurd h (by show ¬ wAt w ∈ _; cases w <;> decide +kernel), fun _ => rfl⟩
  | mat _ _ => exact ⟨fun h => absurd h (by show ¬ sMat ∈ _; decide +kernel), fun _ => rfl⟩
  | sam _ _ => exact ⟨fun h => absurd h (by show ¬ sSam ∈ _; decide +kernel), fun _ => rfl⟩
  | emp _ => exact ⟨fun h => absurd h (by show ¬ sEmp ∈ _; decide +kernel), fun _ => rfl⟩
  | nt c => exact ⟨fun _ => rfl, fun h => absurd (by show sNot ∈ _; decide +kernel) h⟩
  | nd w cs => exact ⟨fun _ => Cn.ds_map cs, fun h => absurd (by show wNd w ∈ _; cases w <;> decide +kernel) h⟩
theorem str_inT {z : Str} {zs : List Str} (hz : ∀ c ∈ zl z, c < 1114112) (hs : ∀ y ∈ zs, ∀ c ∈ zl y, c < 1114112) : gIn [.str z, .tup (zs.map .str)] = some (bO (decide (z ∈ zs))) := by
  have s2 : shp (.tup (zs.map .str)) = true := (shp_tup (k := 0) fun x hx => let ⟨y, hy, e⟩ := List.mem_map.mp hx; e ▸ shp_str (hs y hy)).shp (by omega)
  rw [gIn_t (shp_z hz) s2]
  congr 2
  have := inL_pl (x := .str z) (ds := zs.map .str) (by rw [D.pl]) fun d hd => let ⟨y, hy, e⟩ := List.mem_map.mp hd; e ▸ (by rw [D.pl])
  have h2 : D.str z ∈ zs.map D.str ↔ z ∈ zs := by
    rw [List.mem_map]
    exact ⟨fun ⟨y, hy, e⟩ => by injection e with e; exact e ▸ hy, fun h => ⟨z, h, rfl⟩⟩
  rw [h2] at this
  by_cases h : z ∈ zs
  · rw [decide_eq_true h]; exact this.mpr h
  · rw [decide_eq_false h]; exact Bool.eq_false_iff.mpr fun w => h (this.mp w)
theorem cut1_c {x : D} {xs : List D} : cutD (x :: xs) (some 1) none = xs := by rw [cutD_1]; rfl
theorem Cn.w_mat {c : Cn} (h : c.w = sMat) : ∃ n p, c = .mat n p := by
  cases c with
  | mat n p => exact ⟨n, p, rfl⟩
  | at0 w => exact absurd h (by show wAt w ≠ _; cases w <;> decide +kernel)
  | sam _ _ => exact absurd h (by show sSam ≠ _; decide +kernel)
  | emp _ => exact absurd h (by show sEmp ≠ _; decide +kernel)
  | nt _ => exact absurd h (by show sNot ≠ _; decide +kernel)
  | nd w _ => exact absurd h (by show wNd w ≠ _; cases w <;> decide +kernel)
theorem parts_ok (c : Cn) : F_parts_of [.fr c.d] = some (.ok (.fr (.tup (c.parts.map Cn.d))) [.fr c.d]) := by
  have hin : gIn [.str c.w, .tup [.str (PySem.Str.ofString "and"), .str (PySem.Str.ofString "or"), .str (PySem.Str.ofString "not")]] = some (bO (decide (c.w ∈ [sAnd, sOr, sNot]))) := str_inT (zs := [sAnd, sOr, sNot]) c.w_ok (by decide +kernel)
  have hcd := c.d_e
  have h1 := @cut1_c (.str c.w) c.tl
  unfold F_parts_of G_parts_of
  rcases c.wb with h | h
  · rw [decide_eq_true h] at hin
    have h2 := Cn.w_in.1 h
    rw [h2] at hcd h1
    clear h
    walk_at "evd"
  · rw [decide_eq_false h] at hin
    have h2 := Cn.w_in.2 h
    clear h
    walk_at "evd"
theorem Cn.size_parts (c : Cn) : c.size = 1 + Cn.sizes c.parts := by
  cases c <;> simp [Cn.size, Cn.parts, Cn.sizes]
theorem sizes_sum : ∀ cs : List Cn, (cs.map fun c => (c.size : Int)).sum = (Cn.sizes cs : Int)
  | [] => by simp [Cn.sizes]
  | c :: cs => by rw [List.map_cons, List.sum_cons, sizes_sum cs, Cn.sizes]; omega
theorem size_ok (N R : List Str) : ∀ (n m : Nat) (c : Cn), COk N R m c → m ≤ n → c.size ≤ 1000 → F_size_of n [.fr c.d] = some (.ok (iO c.size) [.fr c.d])
  | 0, m, c, h, hm, _ => by obtain ⟨j, rfl, _⟩ := h.dp; omega
  | n + 1, m, c, h, hm, hs => by
    obtain ⟨j, rfl, hp⟩ := h.dp
    have ih := size_ok N R n j
    have hsz := Cn.size_parts c
    have hl := szs_len c.parts
    have hle : ∀ p ∈ c.parts, p.size ≤ 1000 := by
      have : ∀ (cs : List Cn) (p : Cn), p ∈ cs → p.size ≤ Cn.sizes cs := by
        intro cs
        induction cs with
        | nil => intro p hp; exact (List.not_mem_nil hp).elim
        | cons x xs ih =>
          intro p hp
          rw [Cn.sizes]
          rcases List.mem_cons.mp hp with rfl | hp
          · omega
          · have := ih p hp; omega
      intro p hp
      have := this _ p hp
      omega
    have hc : ∀ q0, lcL [1] (.n 1) cYes (C_size_of_0 (F_size_of n)) (c.parts.map Cn.d) [] [some q0, none] = some (c.parts.map fun p => D.int p.size, [some q0, none]) := fun q0 => lc_map _ _ _ (by omega) fun p hpm => ⟨_, rfl, by
      have := ih p (hp p hpm) (by omega) (hle p hpm)
      unfold C_size_of_0
      clear hp
      walk_at "evd"⟩
    have hpo := parts_ok c
    have hsum := gSum_ints (c.parts.map fun p => (p.size : Int))
    rw [List.map_map, sizes_sum] at hsum
    have hsum' : gSum [.lst (c.parts.map fun p => D.int p.size)] = some (iO (Cn.sizes c.parts : Int)) := hsum
    have hfin : (1 : Int) + Cn.sizes c.parts = c.size := by omega
    unfold F_size_of G_size_of
    clear hsz hsum hl hle hp ih hs
    walk_at "evd"
theorem D.pl_tup {ds : List D} (h : ∀ d ∈ ds, d.pl = true) : (D.tup ds).pl = true := by rw [D.pl]; exact D.pls_of h
theorem cok_shp {N R : List Str} (hN : ∀ z ∈ N, LtrZ z) (hR : ∀ z ∈ R, LtrZ z) : ∀ {n : Nat} {c : Cn}, COk N R n c → Shp (n + 1) c.d ∧ c.d.pl = true
  | n + 1, .at0 w, _ => by
    rw [Cn.d]
    have hw : ∀ x ∈ zl (wAt w), x < 1114112 := by cases w <;> decide +kernel
    exact ⟨shp_tup fun x hx => by rw [List.mem_singleton.mp hx]; exact (shp_str hw).mono (by omega), D.pl_tup fun x hx => by rw [List.mem_singleton.mp hx, D.pl]⟩
  | n + 1, .mat a p, h => by
    rw [Cn.d]
    cases h with
    | mat _ _ _ ha hp =>
      refine ⟨shp_tup fun x hx => ?_, D.pl_tup fun x hx => ?_⟩
      · simp only [List.mem_cons, List.not_mem_nil, or_false] at hx
        rcases hx with rfl | rfl | rfl
        · exact (shp_str (by decide +kernel)).mono (by omega)
        · exact (shp_str (hN a ha).ok).mono (by omega)
        · exact (shp_str hp.ok).mono (by omega)
      · simp only [List.mem_cons, List.not_mem_nil, or_false] at hx
        rcases hx with rfl | rfl | rfl <;> rw [D.pl]
  | n + 1, .sam a b, h => by
    rw [Cn.d]
    cases h with
    | sam _ _ _ ha hb =>
      refine ⟨shp_tup fun x hx => ?_, D.pl_tup fun x hx => ?_⟩
      · simp only [List.mem_cons, List.not_mem_nil, or_false] at hx
        rcases hx with rfl | rfl | rfl
        · exact (shp_str (by decide +kernel)).mono (by omega)
        · exact (shp_str (hN a ha).ok).mono (by omega)
        · exact (shp_str (hN b hb).ok).mono (by omega)
      · simp only [List.mem_cons, List.not_mem_nil, or_false] at hx
        rcases hx with rfl | rfl | rfl <;> rw [D.pl]
  | n + 1, .emp a, h => by
    rw [Cn.d]
    cases h with
    | emp _ _ ha =>
      refine ⟨shp_tup fun x hx => ?_, D.pl_tup fun x hx => ?_⟩
      · simp only [List.mem_cons, List.not_mem_nil, or_false] at hx
        rcases hx with rfl | rfl
        · exact (shp_str (by decide +kernel)).mono (by omega)
        · exact (shp_str (hR a ha).ok).mono (by omega)
      · simp only [List.mem_cons, List.not_mem_nil, or_false] at hx
        rcases hx with rfl | rfl <;> rw [D.pl]
  | n + 1, .nt c, h => by
    rw [Cn.d]
    cases h with
    | nt _ _ hc =>
      have ih := cok_shp hN hR hc
      refine ⟨shp_tup fun x hx => ?_, D.pl_tup fun x hx => ?_⟩
      · simp only [List.mem_cons, List.not_mem_nil, or_false] at hx
        rcases hx with rfl | rfl
        · exact (shp_str (by decide +kernel)).mono (by omega)
        · exact ih.1
      · simp only [List.mem_cons, List.not_mem_nil, or_false] at hx
        rcases hx with rfl | rfl
        · rw [D.pl]
        · exact ih.2
  | n + 1, .nd w cs, h => by
    rw [Cn.d, Cn.ds_map]
    cases h with
    | nd _ _ _ hc =>
      have hw : ∀ x ∈ zl (wNd w), x < 1114112 := by cases w <;> decide +kernel
      refine ⟨shp_tup fun x hx => ?_, D.pl_tup fun x hx => ?_⟩
      · rcases List.mem_cons.mp hx with rfl | hx
        · exact (shp_str hw).mono (by omega)
        · obtain ⟨c, hcm, rfl⟩ := List.mem_map.mp hx
          exact (cok_shp hN hR (hc c hcm)).1
      · rcases List.mem_cons.mp hx with rfl | hx
        · rw [D.pl]
        · obtain ⟨c, hcm, rfl⟩ := List.mem_map.mp hx
          exact (cok_shp hN hR (hc c hcm)).2
theorem COk.mono {N R : List Str} : ∀ {n m : Nat} {c : Cn}, COk N R n c → n ≤ m → COk N R m c
  | n + 1, 0, _, _, h => by omega
  | n + 1, m + 1, .at0 w, _, _ => .at0 _ _
  | n + 1, m + 1, .mat a p, h, _ => by cases h with | mat _ _ _ ha hp => exact .mat _ _ _ ha hp
  | n + 1, m + 1, .sam a b, h, _ => by cases h with | sam _ _ _ ha hp => exact .sam _ _ _ ha hp
  | n + 1, m + 1, .emp a, h, _ => by cases h with | emp _ _ ha => exact .emp _ _ ha
  | n + 1, m + 1, .nt c, h, hm => by cases h with | nt _ _ hc => exact .nt _ _ (hc.mono (by omega))
  | n + 1, m + 1, .nd w cs, h, hm => by cases h with | nd _ _ _ hc => exact .nd _ _ _ fun c hcm => (hc c hcm).mono (by omega)
/-- a source -/
inductive Sc where
  | val (n : Str) | txt (z : Str) | frs (i : Int)
abbrev sVal : Str := PySem.Str.ofString "value"
abbrev sTxt : Str := PySem.Str.ofString "text"
abbrev sFrs : Str := PySem.Str.ofString "fresh"
def Sc.d : Sc → D
  | .val n => .tup [.str sVal, .str n]
  | .txt z => .tup [.str sTxt, .str z]
  | .frs i => .tup [.str sFrs, .int i]
def SOk (N : List Str) : Sc → Prop
  | .val n => n ∈ N
  | .txt z => LtrZ z ∧ z.length ≤ 8
  | .frs i => 0 ≤ i ∧ i < 3
/-- a line of a turn -/
inductive Ln where
  | keep | clear | src (s : Sc)
abbrev sKeep : Str := PySem.Str.ofString "keep"
abbrev sClear : Str := PySem.Str.ofString "clear"
def Ln.d : Ln → D
  | .keep => .tup [.str sKeep]
  | .clear => .tup [.str sClear]
  | .src s => s.d
def LOk (N : List Str) : Ln → Prop
  | .src s => SOk N s
  | _ => True
theorem dsrc_ex (N : O) (nms : List Str) (hN : N.d = .lst (nms.map .str)) (hn0 : 0 < nms.length) (hnl : nms.length ≤ 100) (k : Dk) :
    ∃ (s : Sc) (k' : Dk), F__law_source [dk k, N] = some (.ok (.fr s.d) [dk k', N]) ∧ SOk nms s := by
  have H : FEv (F__law_source [dk k, N]) (@hq _ _ ⟨fun o os => ∃ (s : Sc) (k' : Dk), o = .fr s.d ∧ os = [dk k', N] ∧ SOk nms s⟩) (fun _ _ => False) := by
    have dr := draw_ok
    have fin : ∀ (s : Sc) (k' : Dk), SOk nms s → @hq O (List O) ⟨fun o os => ∃ (s : Sc) (k' : Dk), o = .fr s.d ∧ os = [dk k', N] ∧ SOk nms s⟩ (.fr s.d) [dk k', N] := fun s k' h => ⟨s, k', rfl, rfl, h⟩
    have bd := draw_bd k (b := 4) (by omega) (by omega)
    have dn := draw_ok (dN k 4) nms.length (by omega) (by omega)
    have bn := draw_bd (dN k 4) (b := (nms.length : Int)) (by omega) (by omega)
    obtain ⟨a, am, ha⟩ := strs_at nms bn.1 bn.2
    have f1 := fin (.val a) (dN (dN k 4) nms.length) am
    have b2 := draw_bd (dN k 4) (b := 2) (by omega) (by omega)
    have b3 := draw_bd (dN k 4) (b := 3) (by omega) (by omega)
    have f3 := fin (.frs (dV (dN k 4) 3)) (dN (dN k 4) 3) b3
    have hm : ∃ m : Int, atI [D.int 2, D.int 8] (dV (dN k 4) 2) = some (.int m) ∧ 0 ≤ m ∧ m ≤ 8 := by
      have : dV (dN k 4) 2 = 0 ∨ dV (dN k 4) 2 = 1 := by omega
      rcases this with h | h
      · rw [h]; exact ⟨2, rfl, by omega, by omega⟩
      · rw [h]; exact ⟨8, rfl, by omega, by omega⟩
    obtain ⟨m, m1, m2, m3⟩ := hm
    obtain ⟨z, k2, z1, z2, z3, z4⟩ := dtext_ex (dN (dN k 4) 2) m m2 (by omega)
    have f2 := fin (.txt z) k2 ⟨z2, by omega⟩
    have e1 : (Sc.val a).d = .tup [.str sVal, .str a] := rfl
    have e2 : (Sc.txt z).d = .tup [.str sTxt, .str z] := rfl
    have e3 : (Sc.frs (dV (dN k 4) 3)).d = .tup [.str sFrs, .int (dV (dN k 4) 3)] := rfl
    rw [e1] at f1
    rw [e2] at f2
    rw [e3] at f3
    have hn1 : ¬ nms.length = 0 := by omega
    unfold F__law_source G__law_source
    clear fin am bn b2 b3 z2 z3 z4 m2 m3 e1 e2 e3 hn0 hnl
    by_cases h1 : dV k 4 < 2
    · clear f2 f3
      walk_at "ev"
      all_goals exact f1
    · by_cases h2 : dV k 4 = 2
      · clear f1 f3
        walk_at "ev"
        all_goals exact f2
      · clear f1 f2
        walk_at "ev"
        all_goals exact f3
  obtain ⟨o, os, h, s, k', rfl, rfl, h1⟩ := H.get
  exact ⟨s, k', h, h1⟩
theorem dline_ex (N : O) (nms : List Str) (hN : N.d = .lst (nms.map .str)) (hn0 : 0 < nms.length) (hnl : nms.length ≤ 100) (k : Dk) :
    ∃ (s : Ln) (k' : Dk), F__law_line [dk k, N] = some (.ok (.fr s.d) [dk k', N]) ∧ LOk nms s := by
  have H : FEv (F__law_line [dk k, N]) (@hq _ _ ⟨fun o os => ∃ (s : Ln) (k' : Dk), o = .fr s.d ∧ os = [dk k', N] ∧ LOk nms s⟩) (fun _ _ => False) := by
    have dr := draw_ok
    have fin : ∀ (s : Ln) (k' : Dk), LOk nms s → @hq O (List O) ⟨fun o os => ∃ (s : Ln) (k' : Dk), o = .fr s.d ∧ os = [dk k', N] ∧ LOk nms s⟩ (.fr s.d) [dk k', N] := fun s k' h => ⟨s, k', rfl, rfl, h⟩
    have bd := draw_bd k (b := 4) (by omega) (by omega)
    obtain ⟨s, k2, s1, s2⟩ := dsrc_ex N nms hN hn0 hnl (dN k 4)
    have f3 := fin (.src s) k2 s2
    have f1 := fin .keep (dN k 4) trivial
    have f2 := fin .clear (dN k 4) trivial
    have e1 : Ln.keep.d = .tup [.str sKeep] := rfl
    have e2 : Ln.clear.d = .tup [.str sClear] := rfl
    have e3 : (Ln.src s).d = s.d := rfl
    rw [e1] at f1
    rw [e2] at f2
    rw [e3] at f3
    unfold F__law_line G__law_line
    clear fin s2 e1 e2 e3 hn0 hnl
    by_cases h0 : dV k 4 = 0
    · clear f2 f3
      walk_at "ev"
      all_goals exact f1
    · by_cases h1 : dV k 4 = 1
      · clear f1 f3
        walk_at "ev"
        all_goals exact f2
      · have h2 : ¬ dV k 4 < 2 := by omega
        clear f1 f2
        walk_at "ev"
        all_goals exact f3
  obtain ⟨o, os, h, s, k', rfl, rfl, h1⟩ := H.get
  exact ⟨s, k', h, h1⟩
/-- a kind: its word and the names of its values -/
def ktD (p : Str × List Str) : D := .tup (.str p.1 :: p.2.map .str)
/-- a rule -/
structure Rl where
  st : Option Str
  kd : Str
  c : Cn
  w : Str
  src : List Sc
  ln : List Ln
  to : Str
def stD : Option Str → D
  | none => .non
  | some z => .str z
def Rl.ans (r : Rl) : D := .tup (.str r.w :: r.src.map Sc.d)
def Rl.trn (r : Rl) : D := .tup (r.ln.map Ln.d)
def Rl.d (r : Rl) : D := .tup [stD r.st, .str r.kd, r.c.d, r.ans, r.trn, .str r.to]
abbrev sSelf : Str := PySem.Str.ofString "self"
abbrev sNew : Str := PySem.Str.ofString "new"
def nmsOf (rg vs : List Str) : List Str := rg ++ vs ++ [sSelf]
/-- a rule of these stations, registers, kinds -/
structure ROk (st rg : List Str) (rq : List (Str × List Str)) (r : Rl) : Prop where
  kd : ∃ vs, (r.kd, vs) ∈ rq ∧ COk (nmsOf rg vs) rg 3 r.c ∧ (∀ s ∈ r.src, SOk (nmsOf rg vs) s) ∧ ∀ l ∈ r.ln, LOk (nmsOf rg vs) l
  sz : r.c.size ≤ 20
  s : r.st = none ∨ ∃ z ∈ st, r.st = some z ∧ r.kd ≠ sNew
  w : LtrZ r.w ∧ 1 ≤ r.w.length ∧ r.w.length ≤ 12
  sl : r.src.length ≤ 4
  ll : r.ln.length = rg.length
  to : r.to ∈ st
noncomputable def T3__law_rule : M Fl :=
  (sSeq (sSet 9 (ap gAdd [.v (eCall F__law_letter [.b 0] []), .v (eCall F__law_text [.b 0, .v (ap gIx [.v (eLst [(eC (.int 0)), (eC (.int 0)), (eC (.int 2)), (eC (.int 11))]), .v (eCall F__law_draw [.b 0, .v (eC (.int 4))] [])])] [])]))
  (sSeq (sSet 10 (ap gAdd [.v (eLst [(eVar 9)]), .v (eComp [12] (sRng1 (.v (ap gIx [.v (eLst [(eC (.int 0)), (eC (.int 1)), (eC (.int 1)), (eC (.int 2)), (eC (.int 2)), (eC (.int 3)), (eC (.int 4))]), .v (eCall F__law_draw [.b 0, .v (eC (.int 7))] [])]))) (.n 12) cYes C__law_rule_0)]))
  (sSeq (sSet 11 (eComp [12] (sRng1 (.v (ap gLen [.b 2]))) (.n 12) cYes C__law_rule_1))
  (sRet (eTup [(eVar 7), (ap gIx [.b 5, .v (eC (.int 0))]), (eVar 8), (ap gTuple [.b 10]), (ap gTuple [.b 11]), (ap gIx [.b 1, .v (eCall F__law_draw [.b 0, .v (ap gLen [.b 1])] [])])])))))
noncomputable def T2__law_rule : M Fl :=
  (sSeq (sSet 8 (eTup [(eC (.str (PySem.Str.ofString "always")))]))
  (sSeq (sIf (tst (ap gEq [.v (eCall F__law_draw [.b 0, .v (eC (.int 2))] []), .v (eC (.int 1))]))
    (sSet 8 (eCall F__law_condition [.b 0, .b 6, .b 2, .v (eC (.int 3))] []))
    sNext)
  T3__law_rule))
noncomputable def T1__law_rule : M Fl :=
  (sSeq (sSet 6 (ap gAdd [.v (ap gAdd [.b 2, .v (ap gListX [.v (ap (gSl true false) [.b 5, .v (eC (.int 1))])])]), .v (eLst [(eC (.str (PySem.Str.ofString "self")))])]))
  (sSeq (sSet 7 (eC .non))
  (sSeq (sIf (cAnd (tst (ap gNe [.v (ap gIx [.b 5, .v (eC (.int 0))]), .v (eC (.str (PySem.Str.ofString "new")))])) (tst (ap gGt [.v (eCall F__law_draw [.b 0, .v (eC (.int 3))] []), .v (eC (.int 0))])))
    (sSet 7 (ap gIx [.b 1, .v (eCall F__law_draw [.b 0, .v (ap gLen [.b 1])] [])]))
    sNext)
  T2__law_rule)))
theorem G__law_rule_e : G__law_rule = (sSeq (sSet 5 (ap gIx [.b 3, .v (eC (.int 0))]))
  (sSeq (sIf (cNot (tru (.b 4)))
    (sSet 5 (ap gIx [.b 3, .v (eCall F__law_draw [.b 0, .v (ap gLen [.b 3])] [])]))
    sNext)
  T1__law_rule)) := rfl

theorem srcs_of {N : List Str} : ∀ {xs : List D}, (∀ x ∈ xs, ∃ s : Sc, x = s.d ∧ SOk N s) → ∃ ss : List Sc, xs = ss.map Sc.d ∧ ∀ s ∈ ss, SOk N s
  | [], _ => ⟨[], rfl, fun c h => (List.not_mem_nil h).elim⟩
  | x :: xs, h => by
    obtain ⟨c, rfl, hc⟩ := h x List.mem_cons_self
    obtain ⟨cs, rfl, hcs⟩ := srcs_of fun y hy => h y (List.mem_cons_of_mem _ hy)
    exact ⟨c :: cs, rfl, fun d hd => by
      rcases List.mem_cons.mp hd with rfl | hd
      · exact hc
      · exact hcs d hd⟩
theorem lns_of {N : List Str} : ∀ {xs : List D}, (∀ x ∈ xs, ∃ s : Ln, x = s.d ∧ LOk N s) → ∃ ss : List Ln, xs = ss.map Ln.d ∧ ∀ s ∈ ss, LOk N s
  | [], _ => ⟨[], rfl, fun c h => (List.not_mem_nil h).elim⟩
  | x :: xs, h => by
    obtain ⟨c, rfl, hc⟩ := h x List.mem_cons_self
    obtain ⟨cs, rfl, hcs⟩ := lns_of fun y hy => h y (List.mem_cons_of_mem _ hy)
    exact ⟨c :: cs, rfl, fun d hd => by
      rcases List.mem_cons.mp hd with rfl | hd
      · exact hc
      · exact hcs d hd⟩
/-- the end of a rule's drawing -/
def RuleP (st rg : List Str) (rq : List (Str × List Str)) (S R Q : O) (b : Bool) : Fl → Sl → Prop := fun fl e => ∃ (r : Rl) (k' : Dk) (es : Sl), fl = .ret (.fr r.d) ∧ e = some (dk k') :: some S :: some R :: some Q :: some (bO b) :: es ∧ ROk st rg rq r
theorem t3_ok (S R Q : O) (b : Bool) (st rg vs : List Str) (rq : List (Str × List Str)) (hS : S.d = .lst (st.map .str)) (hR : R.d = .lst (rg.map .str)) (hs0 : 0 < st.length) (hsl : st.length ≤ 100) (hrl : rg.length ≤ 20) (hvl : vs.length ≤ 20)
    (kd : Str) (hk : (kd, vs) ∈ rq) (sta : Option Str) (hst : sta = none ∨ ∃ z ∈ st, sta = some z ∧ kd ≠ sNew) (c : Cn) (hc : COk (nmsOf rg vs) rg 3 c ∧ c.size ≤ 20) (k : Dk) (T : M Fl) (hT : T3__law_rule = T) :
    Ev (T [some (dk k), some S, some R, some Q, some (bO b), some (.fr (ktD (kd, vs))), some (.lst ((nmsOf rg vs).map .str)), some (.fr (stD sta)), some (.fr c.d), none, none, none, none]) (@hq _ _ ⟨RuleP st rg rq S R Q b⟩) (fun _ _ => False) := by
  have dr := draw_ok
  have lt := letter_ok
  have hNl : 0 < (nmsOf rg vs).length ∧ (nmsOf rg vs).length ≤ 100 := by unfold nmsOf; rw [List.length_append, List.length_append, List.length_singleton]; omega
  have m4 : ∃ m : Int, atI [D.int 0, D.int 0, D.int 2, D.int 11] (dV (lN k) 4) = some (.int m) ∧ 0 ≤ m ∧ m ≤ 11 := by
    have := draw_bd (lN k) (b := 4) (by omega) (by omega)
    have : dV (lN k) 4 = 0 ∨ dV (lN k) 4 = 1 ∨ dV (lN k) 4 = 2 ∨ dV (lN k) 4 = 3 := by omega
    rcases this with h | h | h | h <;> rw [h]
    · exact ⟨0, rfl, by omega, by omega⟩
    · exact ⟨0, rfl, by omega, by omega⟩
    · exact ⟨2, rfl, by omega, by omega⟩
    · exact ⟨11, rfl, by omega, by omega⟩
  obtain ⟨m, m1, m2, m3⟩ := m4
  obtain ⟨t, k2, t1, t2, t3, _⟩ := dtext_ex (dN (lN k) 4) m m2 (by omega)
  have lb := letter_bd k
  have hw : LtrZ (one (lV k) ++ t) ∧ 1 ≤ (one (lV k) ++ t).length ∧ (one (lV k) ++ t).length ≤ 12 := by
    refine ⟨fun c hc => ?_, ?_, ?_⟩
    · rw [zl_app] at hc
      rcases List.mem_append.mp hc with hc | hc
      · rw [List.mem_singleton.mp hc]; exact lb
      · exact t2 c hc
    · rw [len_app, len_one]; omega
    · rw [len_app, len_one]; omega
  have s1 : (one (lV k)).length + t.length ≤ sizeLine := sz2_of (by rw [len_one]; omega)
  have n7 : ∃ n : Int, atI [D.int 0, D.int 1, D.int 1, D.int 2, D.int 2, D.int 3, D.int 4] (dV k2 7) = some (.int n) ∧ 0 ≤ n ∧ n ≤ 4 := by
    have := draw_bd k2 (b := 7) (by omega) (by omega)
    have : dV k2 7 = 0 ∨ dV k2 7 = 1 ∨ dV k2 7 = 2 ∨ dV k2 7 = 3 ∨ dV k2 7 = 4 ∨ dV k2 7 = 5 ∨ dV k2 7 = 6 := by omega
    rcases this with h | h | h | h | h | h | h <;> rw [h]
    · exact ⟨0, rfl, by omega, by omega⟩
    · exact ⟨1, rfl, by omega, by omega⟩
    · exact ⟨1, rfl, by omega, by omega⟩
    · exact ⟨2, rfl, by omega, by omega⟩
    · exact ⟨2, rfl, by omega, by omega⟩
    · exact ⟨3, rfl, by omega, by omega⟩
    · exact ⟨4, rfl, by omega, by omega⟩
  obtain ⟨n, n1, n2, n3⟩ := n7
  have rn : inR n = true := inR_pos n2 (by omega)
  have rr : inR (rg.length : Int) = true := inR_pos (by omega) (by omega)
  have cA : ∀ (q5 q7 q8 q9 : Option O) (k : Dk), ∃ (ss : List Sc) (k' : Dk), lcL [12] (.n 12) cYes C__law_rule_0 (rngD 0 n) [] [some (dk k), some S, some R, some Q, some (bO b), q5, some (.lst ((nmsOf rg vs).map .str)), q7, q8, q9, none, none, none] = some (ss.map Sc.d, [some (dk k'), some S, some R, some Q, some (bO b), q5, some (.lst ((nmsOf rg vs).map .str)), q7, q8, q9, none, none, none]) ∧ (ss.length : Int) = n ∧ ∀ s ∈ ss, SOk (nmsOf rg vs) s := fun q5 q7 q8 q9 k => by
    obtain ⟨xs, k', c1, c2, c3⟩ := lc_draw (own := [12]) (tg := .n 12) (f := C__law_rule_0) (fun k : Dk => [some (dk k), some S, some R, some Q, some (bO b), q5, some (.lst ((nmsOf rg vs).map .str)), q7, q8, q9, none, none, none]) (fun x => ∃ s : Sc, x = s.d ∧ SOk (nmsOf rg vs) s) (rngD 0 n) (fun d _ k => ⟨_, rfl, by
      have h := dsrc_ex (.lst ((nmsOf rg vs).map .str)) (nmsOf rg vs) rfl hNl.1 hNl.2 k
      cases h with
      | intro s h =>
        cases h with
        | intro k' h =>
          have h1 := h.1
          have ex : ∃ s' : Sc, s.d = s'.d ∧ SOk (nmsOf rg vs) s' := ⟨s, rfl, h.2⟩
          generalize s.d = sd at *
          unfold C__law_rule_0
          clear h hc hst hNl hw dr lt m1 t1
          walk_at "ev"
          first | exact ⟨ex, k', rfl⟩ | exact ⟨k', rfl⟩⟩) (by rw [rngD_len]; omega) k
    have h := srcs_of c3
    cases h with
    | intro ss h =>
      rw [rngD_len] at c2
      refine ⟨ss, k', by rw [c1, h.1], ?_, h.2⟩
      have : xs.length = ss.length := by rw [h.1, List.length_map]
      omega
  have cB : ∀ (q5 q7 q8 q9 q10 : Option O) (k : Dk), ∃ (ss : List Ln) (k' : Dk), lcL [12] (.n 12) cYes C__law_rule_1 (rngD 0 (rg.length : Int)) [] [some (dk k), some S, some R, some Q, some (bO b), q5, some (.lst ((nmsOf rg vs).map .str)), q7, q8, q9, q10, none, none] = some (ss.map Ln.d, [some (dk k'), some S, some R, some Q, some (bO b), q5, some (.lst ((nmsOf rg vs).map .str)), q7, q8, q9, q10, none, none]) ∧ ss.length = rg.length ∧ ∀ s ∈ ss, LOk (nmsOf rg vs) s := fun q5 q7 q8 q9 q10 k => by
    obtain ⟨xs, k', c1, c2, c3⟩ := lc_draw (own := [12]) (tg := .n 12) (f := C__law_rule_1) (fun k : Dk => [some (dk k), some S, some R, some Q, some (bO b), q5, some (.lst ((nmsOf rg vs).map .str)), q7, q8, q9, q10, none, none]) (fun x => ∃ s : Ln, x = s.d ∧ LOk (nmsOf rg vs) s) (rngD 0 (rg.length : Int)) (fun d _ k => ⟨_, rfl, by
      have h := dline_ex (.lst ((nmsOf rg vs).map .str)) (nmsOf rg vs) rfl hNl.1 hNl.2 k
      cases h with
      | intro s h =>
        cases h with
        | intro k' h =>
          have h1 := h.1
          have ex : ∃ s' : Ln, s.d = s'.d ∧ LOk (nmsOf rg vs) s' := ⟨s, rfl, h.2⟩
          generalize s.d = sd at *
          unfold C__law_rule_1
          clear h hc hst hNl hw dr lt m1 t1
          walk_at "ev"
          first | exact ⟨ex, k', rfl⟩ | exact ⟨k', rfl⟩⟩) (by rw [rngD_len]; omega) k
    have h := lns_of c3
    cases h with
    | intro ss h =>
      rw [rngD_len] at c2
      refine ⟨ss, k', by rw [c1, h.1], ?_, h.2⟩
      have : xs.length = ss.length := by rw [h.1, List.length_map]
      omega
  obtain ⟨ss, k3, a1, a2, a3⟩ := cA (some (.fr (ktD (kd, vs)))) (some (.fr (stD sta))) (some (.fr c.d)) (some (sO (one (lV k) ++ t))) (dN k2 7)
  obtain ⟨ls, k4, b1, b2, b3⟩ := cB (some (.fr (ktD (kd, vs)))) (some (.fr (stD sta))) (some (.fr c.d)) (some (sO (one (lV k) ++ t))) (some (.lst (.str (one (lV k) ++ t) :: ss.map Sc.d))) k3
  have ds := draw_ok k4 st.length (by omega) (by omega)
  have bs := draw_bd k4 (b := (st.length : Int)) (by omega) (by omega)
  obtain ⟨to, tm, ta⟩ := strs_at st bs.1 bs.2
  have lz : 1 + ss.length ≤ sizeLine := by rw [sizeLine_eq]; omega
  have lz2 : ss.length + 1 ≤ sizeLine := by omega
  have lz3 : 1 + (ss.map Sc.d).length ≤ sizeLine := by rw [List.length_map]; exact lz
  have lz4 : (ss.map Sc.d).length + 1 ≤ sizeLine := by rw [List.length_map]; exact lz2
  have ke : ktD (kd, vs) = .tup (.str kd :: vs.map .str) := rfl
  have fin : ∀ es, RuleP st rg rq S R Q b (.ret (.fr (.tup [stD sta, .str kd, c.d, .tup (.str (one (lV k) ++ t) :: ss.map Sc.d), .tup (ls.map Ln.d), .str to]))) (some (dk (dN k4 st.length)) :: some S :: some R :: some Q :: some (bO b) :: es) := fun es => ⟨⟨sta, kd, c, one (lV k) ++ t, ss, ls, to⟩, _, es, rfl, rfl, ⟨⟨vs, hk, hc.1, a3, b3⟩, hc.2, hst, hw, by show ss.length ≤ 4; omega, b2, tm⟩⟩
  have hs1 : ¬ st.length = 0 := by omega
  rw [ke] at a1 b1 ⊢
  generalize stD sta = SD at *
  generalize c.d = CD at *
  generalize ss.map Sc.d = SS at *
  generalize ls.map Ln.d = LS at *
  generalize (nmsOf rg vs).map D.str = NN at *
  subst hT
  unfold T3__law_rule
  clear cA cB hc hst hw lb t2 t3 a3 b3 hk tm bs m2 m3 n2 n3 hNl ke a2 b2
  walk_at "ev"
  exact fin _
theorem t2_ok (S R Q : O) (b : Bool) (st rg vs : List Str) (rq : List (Str × List Str)) (hS : S.d = .lst (st.map .str)) (hR : R.d = .lst (rg.map .str)) (hs0 : 0 < st.length) (hsl : st.length ≤ 100) (hrl : rg.length ≤ 20) (hvl : vs.length ≤ 20)
    (kd : Str) (hk : (kd, vs) ∈ rq) (sta : Option Str) (hst : sta = none ∨ ∃ z ∈ st, sta = some z ∧ kd ≠ sNew) (k : Dk) (T : M Fl) (hT : T2__law_rule = T) :
    Ev (T [some (dk k), some S, some R, some Q, some (bO b), some (.fr (ktD (kd, vs))), some (.lst ((nmsOf rg vs).map .str)), some (.fr (stD sta)), none, none, none, none, none]) (@hq _ _ ⟨RuleP st rg rq S R Q b⟩) (fun _ _ => False) := by
  have hNl : 0 < (nmsOf rg vs).length ∧ (nmsOf rg vs).length ≤ 100 := by unfold nmsOf; rw [List.length_append, List.length_append, List.length_singleton]; omega
  have d2 := draw_ok k 2 (by omega) (by omega)
  obtain ⟨c, k2, c1, c2, c3⟩ := dcond_ex (.lst ((nmsOf rg vs).map .str)) R (nmsOf rg vs) rg rfl hR hNl.1 hNl.2 (by omega) (dN k 2) 3 (by omega) (by omega)
  rw [show ((3 : Nat) : Int) = 3 from rfl] at c1
  have ta := t3_ok S R Q b st rg vs rq hS hR hs0 hsl hrl hvl kd hk sta hst c ⟨c2, c3⟩ k2
  have tb := t3_ok S R Q b st rg vs rq hS hR hs0 hsl hrl hvl kd hk sta hst (.at0 true) ⟨.at0 _ _, by rw [Cn.size]; omega⟩ (dN k 2)
  have e0 : (Cn.at0 true).d = .tup [.str (PySem.Str.ofString "always")] := by rw [Cn.d]; rfl
  rw [e0] at tb
  obtain ⟨T3, hT3⟩ : ∃ T3, T3__law_rule = T3 := ⟨_, rfl⟩
  have ta := ta T3 hT3
  have tb := tb T3 hT3
  subst hT
  unfold T2__law_rule
  rw [hT3]
  generalize ktD (kd, vs) = KD at *
  generalize stD sta = SD at *
  generalize c.d = CD at *
  generalize (nmsOf rg vs).map D.str = NN at *
  clear c2 c3 hst hk hT3 hS hNl e0
  by_cases h : dV k 2 = 1
  · clear tb
    walk_at "ev"
    exact ta
  · clear ta
    walk_at "ev"
    exact tb
theorem t1_ok (S R Q : O) (b : Bool) (st rg vs : List Str) (rq : List (Str × List Str)) (hS : S.d = .lst (st.map .str)) (hR : R.d = .lst (rg.map .str)) (hs0 : 0 < st.length) (hsl : st.length ≤ 100) (hrl : rg.length ≤ 20) (hvl : vs.length ≤ 20)
    (kd : Str) (hk : (kd, vs) ∈ rq) (k : Dk) (T : M Fl) (hT : T1__law_rule = T) :
    Ev (T [some (dk k), some S, some R, some Q, some (bO b), some (.fr (ktD (kd, vs))), none, none, none, none, none, none, none]) (@hq _ _ ⟨RuleP st rg rq S R Q b⟩) (fun _ _ => False) := by
  have l1 : rg.length + vs.length ≤ sizeLine := by rw [sizeLine_eq]; omega
  have l2 : rg.length + vs.length + 1 ≤ sizeLine := by rw [sizeLine_eq]; omega
  have d3 := draw_ok k 3 (by omega) (by omega)
  have ds := draw_ok (dN k 3) st.length (by omega) (by omega)
  have bs := draw_bd (dN k 3) (b := (st.length : Int)) (by omega) (by omega)
  have b3 := draw_bd k (b := 3) (by omega) (by omega)
  obtain ⟨z, zm, za⟩ := strs_at st bs.1 bs.2
  obtain ⟨T2, hT2⟩ : ∃ T2, T2__law_rule = T2 := ⟨_, rfl⟩
  have ta := fun k => t2_ok S R Q b st rg vs rq hS hR hs0 hsl hrl hvl kd hk none (.inl rfl) k T2 hT2
  have tb := fun (h : kd ≠ sNew) k => t2_ok S R Q b st rg vs rq hS hR hs0 hsl hrl hvl kd hk (some z) (.inr ⟨z, zm, rfl, h⟩) k T2 hT2
  have ke : ktD (kd, vs) = .tup (.str kd :: vs.map .str) := rfl
  have e1 : stD none = .non := rfl
  have e2 : stD (some z) = .str z := rfl
  have c1 : cutD (.str kd :: vs.map .str) (some 1) none = vs.map D.str := by rw [cutD_1]; rfl
  have nn : (nmsOf rg vs).map D.str = rg.map D.str ++ (vs.map D.str ++ [.str (PySem.Str.ofString "self")]) := by unfold nmsOf; rw [List.map_append, List.map_append, List.append_assoc]; rfl
  have nn2 : (nmsOf rg vs).map D.str = rg.map D.str ++ vs.map D.str ++ [.str (PySem.Str.ofString "self")] := by unfold nmsOf; rw [List.map_append, List.map_append]; rfl
  rw [e1, nn] at ta
  rw [e2, nn] at tb
  rw [ke] at ta tb ⊢
  subst hT
  unfold T1__law_rule
  rw [hT2]
  have hs1 : ¬ st.length = 0 := by omega
  by_cases hn : kd = sNew
  · have ta := ta k
    subst hn
    clear tb zm bs hk hT2 ke e1 e2 nn nn2
    walk_at "ev"
    first | exact ta | (rw [List.append_assoc]; exact ta)
  · have hn' : ¬ kd = PySem.Str.ofString "new" := hn
    by_cases h3 : 0 < dV k 3
    · have tb := tb hn (dN (dN k 3) st.length)
      clear ta zm bs hk hT2 ke e1 e2 nn nn2 hn
      walk_at "ev"
      first | exact tb | (rw [List.append_assoc]; exact tb)
    · have ta := ta (dN k 3)
      clear tb zm bs hk hT2 ke e1 e2 nn nn2 hn
      walk_at "ev"
      first | exact ta | (rw [List.append_assoc]; exact ta)
theorem kts_at (rq : List (Str × List Str)) {v : Int} (h0 : 0 ≤ v) (h1 : v < rq.length) : ∃ p ∈ rq, atI (rq.map ktD) v = some (ktD p) := by
  obtain ⟨n, rfl⟩ := Int.eq_ofNat_of_zero_le h0
  have hn : n < rq.length := by omega
  exact ⟨rq[n], List.getElem_mem hn, by rw [atI_cn, List.getElem?_map, List.getElem?_eq_getElem hn]; rfl⟩
theorem drule_ex (S R Q : O) (b : Bool) (st rg : List Str) (rq : List (Str × List Str)) (hS : S.d = .lst (st.map .str)) (hR : R.d = .lst (rg.map .str)) (hQ : Q.d = .lst (rq.map ktD)) (hs0 : 0 < st.length) (hsl : st.length ≤ 100) (hrl : rg.length ≤ 20) (hq0 : 0 < rq.length) (hql : rq.length ≤ 20) (hvl : ∀ p ∈ rq, p.2.length ≤ 20) (k : Dk) :
    ∃ (r : Rl) (k' : Dk), F__law_rule [dk k, S, R, Q, .fr (.bl b)] = some (.ok (.fr r.d) [dk k', S, R, Q, .fr (.bl b)]) ∧ ROk st rg rq r := by
  have H : FEv (F__law_rule [dk k, S, R, Q, .fr (.bl b)]) (@Dn.hq _ _ ⟨fun o os => ∃ (r : Rl) (k' : Dk), o = .fr r.d ∧ os = [dk k', S, R, Q, .fr (.bl b)] ∧ ROk st rg rq r⟩) (fun _ _ => False) := by
    have dr := draw_ok k rq.length (by omega) (by omega)
    have br := draw_bd k (b := (rq.length : Int)) (by omega) (by omega)
    obtain ⟨p, pm, pa⟩ := kts_at rq br.1 br.2
    obtain ⟨p0, pm0, pa0⟩ := kts_at rq (v := 0) (by omega) (by omega)
    obtain ⟨T1, hT1⟩ : ∃ T1, T1__law_rule = T1 := ⟨_, rfl⟩
    have ta := t1_ok S R Q b st rg p0.2 rq hS hR hs0 hsl hrl (hvl p0 pm0) p0.1 pm0 k T1 hT1
    have tb := t1_ok S R Q b st rg p.2 rq hS hR hs0 hsl hrl (hvl p pm) p.1 pm (dN k rq.length) T1 hT1
    have e1 : ktD (p.1, p.2) = ktD p := rfl
    have e2 : ktD (p0.1, p0.2) = ktD p0 := rfl
    rw [e2] at ta
    rw [e1] at tb
    have hq1 : ¬ rq.length = 0 := by omega
    have out : ∀ (fl : Fl) (e : Sl), RuleP st rg rq S R Q b fl e → ∃ (r : Rl) (k' : Dk) (es : Sl), fl = .ret (.fr r.d) ∧ e = some (dk k') :: some S :: some R :: some Q :: some (bO b) :: es ∧ ROk st rg rq r := fun _ _ h => h
    unfold F__law_rule
    rw [G__law_rule_e, hT1]
    generalize ktD p = KP at *
    generalize ktD p0 = KP0 at *
    clear br pm pm0 hT1 hS hR hvl
    cases b with
    | true =>
      clear tb
      walk_at "ev"
      refine Ev.mono ta ?_ (fun _ _ (h : False) => h.elim)
      intro fl e z
      have z' := out fl e z
      cases z' with
      | intro r z' => cases z' with
        | intro k' z' => cases z' with
          | intro es z' =>
            obtain ⟨h1, h2, h3⟩ := z'
            have ex : ∃ r' : Rl, r.d = r'.d ∧ ROk st rg rq r' := ⟨r, rfl, h3⟩
            generalize r.d = rd at *
            subst h1 h2
            clear ta out h3
            walk_at "ev"
            obtain ⟨r', rfl, h3⟩ := ex
            exact Dn.hqi ⟨r', k', rfl, rfl, h3⟩
    | false =>
      clear ta
      walk_at "ev"
      refine Ev.mono tb ?_ (fun _ _ (h : False) => h.elim)
      intro fl e z
      have z' := out fl e z
      cases z' with
      | intro r z' => cases z' with
        | intro k' z' => cases z' with
          | intro es z' =>
            obtain ⟨h1, h2, h3⟩ := z'
            have ex : ∃ r' : Rl, r.d = r'.d ∧ ROk st rg rq r' := ⟨r, rfl, h3⟩
            generalize r.d = rd at *
            subst h1 h2
            clear tb out h3
            walk_at "ev"
            obtain ⟨r', rfl, h3⟩ := ex
            exact Dn.hqi ⟨r', k', rfl, rfl, h3⟩
  obtain ⟨o, os, h, r, k', rfl, rfl, h1⟩ := H.get
  exact ⟨r, k', h, h1⟩
/-- a small letter -/
def ab (c : Nat) : Bool := decide (c ∈ zl (PySem.Str.ofString "abcdefghijklmnopqrstuvwxyz"))
/-- letters alone -/
def lz (z : Str) : Bool := (zl z).all fun c => ab c
/-- a sign of a pattern -/
def psg (c : Nat) : Bool := ab c || decide (c ∈ zl (PySem.Str.ofString "?*"))
/-- a pattern -/
def patB (z : Str) : Bool := decide (z.length ≤ 8) && (decide ((Txt.count z (PySem.Str.ofString "*") : Int) ≤ 2) && (zl z).all psg)
theorem in_abc (c : Nat) : gIn [.str (one c), .str (PySem.Str.ofString "abcdefghijklmnopqrstuvwxyz")] = some (bO (ab c)) := nr rfl
theorem in_wild (c : Nat) : gIn [.str (one c), .str (PySem.Str.ofString "?*")] = some (bO (decide (c ∈ zl (PySem.Str.ofString "?*")))) := nr rfl
theorem boolsD_bl (bs : List Bool) : boolsD (bs.map D.bl) = some bs := by
  induction bs with
  | nil => rfl
  | cons b bs ih => show (boolsD (bs.map D.bl)).map (b :: ·) = _; rw [ih]; rfl
theorem all_bl {α : Type} (f : α → Bool) (xs : List α) : gAll [.lst (xs.map fun c => D.bl (f c))] = some (bO (xs.all f)) := by
  have := boolsD_bl (xs.map fun c => f c)
  rw [List.map_map] at this
  show (boolsD (xs.map (D.bl ∘ fun c => f c))).map _ = _
  rw [this]
  show some (bO ((xs.map fun c => f c).all id)) = _
  rw [List.all_map]; rfl
theorem name_comp1 (z : Str) (hl : z.length ≤ 1000) : lcL [1] (.n 1) cYes C_is_name_0 (signs z) [] [some (.fr (.str z)), none] = some ((zl z).map fun c => D.bl (ab c), [some (.fr (.str z)), none]) := by
  rw [signs_map]
  refine lc_map (fun c => D.str (one c)) (fun c => D.bl (ab c)) (zl z) (by have : (zl z).length = z.length := rfl; omega) fun c _ => ⟨_, rfl, ?_⟩
  have h1 := in_abc c
  unfold C_is_name_0
  walk_at "ev"
theorem nm_z (z : Str) (hl : z.length ≤ 1000) : F_is_name [.fr (.str z)] = some (.ok (bO (lz z && (decide (1 ≤ (z.length : Int)) && decide ((z.length : Int) ≤ 12)))) [.fr (.str z)]) := by
  have h1 := name_comp1 z hl
  have h2 : gAll [.lst ((zl z).map fun c => D.bl (ab c))] = some (bO (lz z)) := all_bl ab (zl z)
  have hs : z.length ≤ sizeLine := sz_of (by omega)
  generalize ((zl z).map fun c => D.bl (ab c)) = bs at *
  unfold F_is_name G_is_name
  by_cases a : (1 : Int) ≤ z.length
  · by_cases b : (z.length : Int) ≤ 12
    · rw [decide_eq_true a, decide_eq_true b, Bool.and_true, Bool.and_true]
      walk_at "ev"
    · rw [decide_eq_false b, Bool.and_false, Bool.and_false]
      walk_at "ev"
  · rw [decide_eq_false a, Bool.false_and, Bool.and_false]
    walk_at "ev"
theorem pat_comp (z : Str) (hl : z.length ≤ 1000) : lcL [1] (.n 1) cYes C_is_pattern_0 (signs z) [] [some (.fr (.str z)), none] = some ((zl z).map fun c => D.bl (psg c), [some (.fr (.str z)), none]) := by
  rw [signs_map]
  refine lc_map (fun c => D.str (one c)) (fun c => D.bl (psg c)) (zl z) (by have : (zl z).length = z.length := rfl; omega) fun c _ => ⟨_, rfl, ?_⟩
  have h1 := in_abc c
  have h2 := in_wild c
  have h3 : psg c = (ab c || decide (c ∈ zl (PySem.Str.ofString "?*"))) := rfl
  unfold C_is_pattern_0
  generalize decide (c ∈ zl (PySem.Str.ofString "?*")) = b2 at *
  generalize ab c = b1 at *
  cases b1
  · walk_at "ev"
  · walk_at "ev"
theorem ispat_ok (z : Str) (hl : z.length ≤ 1000) : F_is_pattern [.fr (.str z)] = some (.ok (bO (patB z)) [.fr (.str z)]) := by
  have hs : z.length ≤ sizeLine := sz_of (by omega)
  unfold F_is_pattern G_is_pattern
  by_cases h8 : z.length ≤ 8
  · have h8' : ¬ ((8 : Int) < (z.length : Int)) := by omega
    by_cases h2 : (Txt.count z (PySem.Str.ofString "*") : Int) ≤ 2
    · have h2' : ¬ ((2 : Int) < (Txt.count z (PySem.Str.ofString "*") : Int)) := by omega
      have hc := pat_comp z (by omega)
      have ha := all_bl psg (zl z)
      have e : patB z = (zl z).all psg := by unfold patB; rw [decide_eq_true h8, decide_eq_true h2]; rfl
      generalize ((zl z).map fun c => D.bl (psg c)) = bs at *
      generalize (zl z).all psg = ba at *
      generalize patB z = pb at *
      subst e
      clear hl h8 h2
      walk_at "ev"
    · have h2' : (2 : Int) < (Txt.count z (PySem.Str.ofString "*") : Int) := by omega
      have e : patB z = false := by unfold patB; rw [decide_eq_false h2, Bool.false_and, Bool.and_false]
      rw [e]
      clear hl e h2 h8
      walk_at "ev"
  · have h8' : (8 : Int) < (z.length : Int) := by omega
    have e : patB z = false := by unfold patB; rw [decide_eq_false h8, Bool.false_and]
    rw [e]
    clear hl e h8
    walk_at "ev"
theorem text_comp1 (z : Str) (hl : z.length ≤ 1000) : lcL [1] (.n 1) cYes C_is_text_0 (signs z) [] [some (.fr (.str z)), none] = some ((zl z).map fun c => D.bl (ab c), [some (.fr (.str z)), none]) := by
  rw [signs_map]
  refine lc_map (fun c => D.str (one c)) (fun c => D.bl (ab c)) (zl z) (by have : (zl z).length = z.length := rfl; omega) fun c _ => ⟨_, rfl, ?_⟩
  have h1 := in_abc c
  unfold C_is_text_0
  walk_at "ev"
theorem is_text_z (z : Str) (hl : z.length ≤ 1000) : F_is_text [.fr (.str z)] = some (.ok (bO (lz z)) [.fr (.str z)]) := by
  have h1 := text_comp1 z hl
  have h2 : gAll [.lst ((zl z).map fun c => D.bl (ab c))] = some (bO (lz z)) := all_bl ab (zl z)
  generalize ((zl z).map fun c => D.bl (ab c)) = bs at *
  unfold F_is_text G_is_text
  walk_at "ev"
theorem ab_of {c : Nat} (h : 97 ≤ c ∧ c ≤ 122) : ab c = true := by
  have e : zl (PySem.Str.ofString "abcdefghijklmnopqrstuvwxyz") = [97, 98, 99, 100, 101, 102, 103, 104, 105, 106, 107, 108, 109, 110, 111, 112, 113, 114, 115, 116, 117, 118, 119, 120, 121, 122] := abc_zl
  unfold ab
  rw [e]
  refine decide_eq_true ?_
  simp only [List.mem_cons, List.not_mem_nil, or_false]
  omega
theorem lz_of {z : Str} (h : LtrZ z) : lz z = true := List.all_eq_true.mpr fun c hc => ab_of (h c hc)
theorem name_yes {z : Str} (h : LtrZ z ∧ 1 ≤ z.length ∧ z.length ≤ 12) : F_is_name [.fr (.str z)] = some (.ok (bO true) [.fr (.str z)]) := by
  rw [nm_z z (by omega), lz_of h.1, decide_eq_true (show (1 : Int) ≤ z.length by omega), decide_eq_true (show (z.length : Int) ≤ 12 by omega)]; rfl
theorem text_yes {z : Str} (h : LtrZ z) (hl : z.length ≤ 100) : F_is_text [.fr (.str z)] = some (.ok (bO true) [.fr (.str z)]) := by
  rw [is_text_z z (by omega), lz_of h]
theorem psg_of {c : Nat} (h : 97 ≤ c ∧ c ≤ 122 ∨ c = 63 ∨ c = 42) : psg c = true := by
  unfold psg
  rcases h with h | h | h
  · rw [ab_of h]; rfl
  · rw [h]; decide +kernel
  · rw [h]; decide +kernel
theorem pat_yes {z : Str} (h : PatZ z) : F_is_pattern [.fr (.str z)] = some (.ok (bO true) [.fr (.str z)]) := by
  have hp : patB z = true := by
    unfold patB
    rw [decide_eq_true (show z.length ≤ 8 by have := h.2.1; omega), decide_eq_true (show (Txt.count z (PySem.Str.ofString "*") : Int) ≤ 2 from h.2.2), Bool.true_and, Bool.true_and]
    exact List.all_eq_true.mpr fun c hc => psg_of (h.1 c hc)
  rw [ispat_ok z (by have := h.2.1; omega), hp]
theorem notinT {z : Str} {zs : List Str} (hz : ∀ c ∈ zl z, c < 1114112) (hs : ∀ y ∈ zs, ∀ c ∈ zl y, c < 1114112) : gNotIn [.str z, .tup (zs.map .str)] = some (bO (!decide (z ∈ zs))) := by
  have s2 : shp (.tup (zs.map .str)) = true := (shp_tup (k := 0) fun x hx => let ⟨y, hy, e⟩ := List.mem_map.mp hx; e ▸ shp_str (hs y hy)).shp (by omega)
  rw [gNotIn_t (shp_z hz) s2]
  congr 3
  have h2 := inL_str z zs
  by_cases h : z ∈ zs
  · rw [decide_eq_true h]; exact h2.mpr h
  · rw [decide_eq_false h]; exact Bool.eq_false_iff.mpr fun w => h (h2.mp w)
theorem notinL {z : Str} {zs : List Str} (hz : LtrZ z) (hs : ∀ y ∈ zs, LtrZ y) (h : z ∈ zs) : gNotIn [.str z, .lst (zs.map .str)] = some (bO false) := by
  rw [gNotIn_l (shp_z hz.ok) (strs_shp zs hs), (inL_str z zs).mpr h]; rfl
theorem check_name_ok {z : Str} {N : O} {nms : List Str} (hN : N.d = .lst (nms.map .str)) (hl : ∀ y ∈ nms, LtrZ y) (h : z ∈ nms) : F_check_name [.fr (.str z), N] = some (.ok (.fr .non) [.fr (.str z), N]) := by
  have h1 := notinL (hl z h) hl h
  rw [← hN] at h1
  unfold F_check_name G_check_name
  clear h hl hN
  walk_at "ev"
theorem check_node_ok {N R : O} {nms regs : List Str} (hN : N.d = .lst (nms.map .str)) (hR : R.d = .lst (regs.map .str)) (hn : ∀ y ∈ nms, LtrZ y) (hr : ∀ y ∈ regs, LtrZ y) {m : Nat} {c : Cn} (hc : COk nms regs m c) : F_check_node [.fr c.d, N, R] = some (.ok (.fr .non) [.fr c.d, N, R]) := by
  have ni : ∀ z : Str, (∀ c ∈ zl z, c < 1114112) → gNotIn [.str z, .tup [.str (PySem.Str.ofString "and"), .str (PySem.Str.ofString "or")]] = some (bO (!decide (z ∈ [sAnd, sOr]))) := fun z hz => notinT (zs := [sAnd, sOr]) hz (by decide +kernel)
  unfold F_check_node G_check_node
  cases hc with
  | at0 m w =>
    rw [Cn.d]
    cases w with
    | true =>
      have a := ni (PySem.Str.ofString "always") (by decide +kernel)
      rw [show decide (PySem.Str.ofString "always" ∈ [sAnd, sOr]) = false by decide +kernel] at a
      have g : tabGet [(PySem.Str.ofString "always", (1 : Int)), (PySem.Str.ofString "never", (1 : Int)), (PySem.Str.ofString "not", (2 : Int)), (PySem.Str.ofString "matches", (3 : Int)), (PySem.Str.ofString "same", (3 : Int)), (PySem.Str.ofString "empty", (2 : Int))] (PySem.Str.ofString "always") = some 1 := by decide +kernel
      have n0 : ¬ PySem.Str.ofString "always" = PySem.Str.ofString "matches" := by decide +kernel
      have n1 : ¬ PySem.Str.ofString "always" = PySem.Str.ofString "same" := by decide +kernel
      have n2 : ¬ PySem.Str.ofString "always" = PySem.Str.ofString "empty" := by decide +kernel
      have w1 : wAt true = PySem.Str.ofString "always" := rfl
      rw [w1]
      clear ni hn hr hN hR w1
      walk_at "evd"
    | false =>
      have a := ni (PySem.Str.ofString "never") (by decide +kernel)
      rw [show decide (PySem.Str.ofString "never" ∈ [sAnd, sOr]) = false by decide +kernel] at a
      have g : tabGet [(PySem.Str.ofString "always", (1 : Int)), (PySem.Str.ofString "never", (1 : Int)), (PySem.Str.ofString "not", (2 : Int)), (PySem.Str.ofString "matches", (3 : Int)), (PySem.Str.ofString "same", (3 : Int)), (PySem.Str.ofString "empty", (2 : Int))] (PySem.Str.ofString "never") = some 1 := by decide +kernel
      have n0 : ¬ PySem.Str.ofString "never" = PySem.Str.ofString "matches" := by decide +kernel
      have n1 : ¬ PySem.Str.ofString "never" = PySem.Str.ofString "same" := by decide +kernel
      have n2 : ¬ PySem.Str.ofString "never" = PySem.Str.ofString "empty" := by decide +kernel
      have w1 : wAt false = PySem.Str.ofString "never" := rfl
      rw [w1]
      clear ni hn hr hN hR w1
      walk_at "evd"
  | mat m a p ha hp =>
    rw [Cn.d]
    have a := ni (PySem.Str.ofString "matches") (by decide +kernel)
    rw [show decide (PySem.Str.ofString "matches" ∈ [sAnd, sOr]) = false by decide +kernel] at a
    have g : tabGet [(PySem.Str.ofString "always", (1 : Int)), (PySem.Str.ofString "never", (1 : Int)), (PySem.Str.ofString "not", (2 : Int)), (PySem.Str.ofString "matches", (3 : Int)), (PySem.Str.ofString "same", (3 : Int)), (PySem.Str.ofString "empty", (2 : Int))] (PySem.Str.ofString "matches") = some 3 := by decide +kernel
    have n1 : ¬ PySem.Str.ofString "matches" = PySem.Str.ofString "same" := by decide +kernel
    have n2 : ¬ PySem.Str.ofString "matches" = PySem.Str.ofString "empty" := by decide +kernel
    have c1 := check_name_ok hN hn ha
    have c2 := pat_yes hp
    rw [show sMat = PySem.Str.ofString "matches" from rfl]
    clear ni hn hr hN hR ha hp
    walk_at "evd"
  | sam m a b ha hb =>
    rw [Cn.d]
    have a := ni (PySem.Str.ofString "same") (by decide +kernel)
    rw [show decide (PySem.Str.ofString "same" ∈ [sAnd, sOr]) = false by decide +kernel] at a
    have g : tabGet [(PySem.Str.ofString "always", (1 : Int)), (PySem.Str.ofString "never", (1 : Int)), (PySem.Str.ofString "not", (2 : Int)), (PySem.Str.ofString "matches", (3 : Int)), (PySem.Str.ofString "same", (3 : Int)), (PySem.Str.ofString "empty", (2 : Int))] (PySem.Str.ofString "same") = some 3 := by decide +kernel
    have n0 : ¬ PySem.Str.ofString "same" = PySem.Str.ofString "matches" := by decide +kernel
    have n2 : ¬ PySem.Str.ofString "same" = PySem.Str.ofString "empty" := by decide +kernel
    have c1 := check_name_ok hN hn ha
    have c2 := check_name_ok hN hn hb
    rw [show sSam = PySem.Str.ofString "same" from rfl]
    clear ni hn hr hN hR ha hb
    walk_at "evd"
  | emp m a ha =>
    rw [Cn.d]
    have a := ni (PySem.Str.ofString "empty") (by decide +kernel)
    rw [show decide (PySem.Str.ofString "empty" ∈ [sAnd, sOr]) = false by decide +kernel] at a
    have g : tabGet [(PySem.Str.ofString "always", (1 : Int)), (PySem.Str.ofString "never", (1 : Int)), (PySem.Str.ofString "not", (2 : Int)), (PySem.Str.ofString "matches", (3 : Int)), (PySem.Str.ofString "same", (3 : Int)), (PySem.Str.ofString "empty", (2 : Int))] (PySem.Str.ofString "empty") = some 2 := by decide +kernel
    have n0 : ¬ PySem.Str.ofString "empty" = PySem.Str.ofString "matches" := by decide +kernel
    have n1 : ¬ PySem.Str.ofString "empty" = PySem.Str.ofString "same" := by decide +kernel
    have c1 := check_name_ok hR hr ha
    rw [show sEmp = PySem.Str.ofString "empty" from rfl]
    clear ni hn hr hN hR ha
    walk_at "evd"
  | nt m c h =>
    rw [Cn.d]
    have a := ni (PySem.Str.ofString "not") (by decide +kernel)
    rw [show decide (PySem.Str.ofString "not" ∈ [sAnd, sOr]) = false by decide +kernel] at a
    have g : tabGet [(PySem.Str.ofString "always", (1 : Int)), (PySem.Str.ofString "never", (1 : Int)), (PySem.Str.ofString "not", (2 : Int)), (PySem.Str.ofString "matches", (3 : Int)), (PySem.Str.ofString "same", (3 : Int)), (PySem.Str.ofString "empty", (2 : Int))] (PySem.Str.ofString "not") = some 2 := by decide +kernel
    have n0 : ¬ PySem.Str.ofString "not" = PySem.Str.ofString "matches" := by decide +kernel
    have n1 : ¬ PySem.Str.ofString "not" = PySem.Str.ofString "same" := by decide +kernel
    have n2 : ¬ PySem.Str.ofString "not" = PySem.Str.ofString "empty" := by decide +kernel
    generalize c.d = CD at *
    rw [show sNot = PySem.Str.ofString "not" from rfl]
    clear ni hn hr hN hR h
    walk_at "evd"
  | nd m w cs h =>
    rw [Cn.d]
    generalize Cn.ds cs = CD at *
    have nz : ¬ ((CD.length : Int) + 1 = 0) := by omega
    cases w with
    | true =>
      have a := ni (PySem.Str.ofString "and") (by decide +kernel)
      rw [show decide (PySem.Str.ofString "and" ∈ [sAnd, sOr]) = true by decide +kernel] at a
      have n0 : ¬ PySem.Str.ofString "and" = PySem.Str.ofString "matches" := by decide +kernel
      have n1 : ¬ PySem.Str.ofString "and" = PySem.Str.ofString "same" := by decide +kernel
      have n2 : ¬ PySem.Str.ofString "and" = PySem.Str.ofString "empty" := by decide +kernel
      have w1 : wNd true = PySem.Str.ofString "and" := rfl
      rw [w1]
      clear ni hn hr hN hR h w1
      walk_at "evd"
    | false =>
      have a := ni (PySem.Str.ofString "or") (by decide +kernel)
      rw [show decide (PySem.Str.ofString "or" ∈ [sAnd, sOr]) = true by decide +kernel] at a
      have n0 : ¬ PySem.Str.ofString "or" = PySem.Str.ofString "matches" := by decide +kernel
      have n1 : ¬ PySem.Str.ofString "or" = PySem.Str.ofString "same" := by decide +kernel
      have n2 : ¬ PySem.Str.ofString "or" = PySem.Str.ofString "empty" := by decide +kernel
      have w1 : wNd false = PySem.Str.ofString "or" := rfl
      rw [w1]
      clear ni hn hr hN hR h w1
      walk_at "evd"
theorem check_parts_ok {N R : O} {nms regs : List Str} (hN : N.d = .lst (nms.map .str)) (hR : R.d = .lst (regs.map .str)) (hn : ∀ y ∈ nms, LtrZ y) (hr : ∀ y ∈ regs, LtrZ y) : ∀ (n dp : Nat) (c : Cn), dp < n → COk nms regs dp c → F_check_parts n [.fr c.d, N, R, .fr (.int (dp : Int))] = some (.ok (.fr .non) [.fr c.d, N, R, .fr (.int (dp : Int))])
  | 0, dp, c, h, _ => by omega
  | n + 1, dp, c, hdp, hc => by
    have ih := check_parts_ok hN hR hn hr n
    obtain ⟨m, hm, hp⟩ := hc.dp
    have hnode := check_node_ok hN hR hn hr hc
    have hpo := parts_ok c
    have hsub : (dp : Int) - 1 = (m : Int) := by omega
    have hd0 : ¬ (dp : Int) = 0 := by omega
    have hmn : m < n := by omega
    clear hm hdp
    have ih2 : ∀ p ∈ c.parts, F_check_parts n [.fr p.d, N, R, .fr (.int (m : Int))] = some (.ok (.fr .non) [.fr p.d, N, R, .fr (.int (m : Int))]) := fun p hpp => ih m p hmn (hp p hpp)
    generalize (dp : Int) = DP at *
    have H : FEv (F_check_parts (n + 1) [.fr c.d, N, R, .fr (.int DP)]) (@hq _ _ ⟨fun o os => o = .fr .non ∧ os = [.fr c.d, N, R, .fr (.int DP)]⟩) (fun _ _ => False) := by
      unfold F_check_parts G_check_parts
      clear ih hp hc hn hr hN hR
      walk_at "evd"
      refine Ev_forP (f := Cn.d) (fun done e => @Dn.hb _ ⟨fun e => ∃ q, e = [some (.fr c.d), some N, some R, some (iO DP), q]⟩ e) _ c.parts [] _ (hbi ⟨_, rfl⟩) ?_ ?_
      · rintro pre x post e he ⟨q, rfl⟩
        refine ⟨_, rfl, ?_⟩
        rw [List.nil_append] at he
        have hx := ih2 x (by rw [he]; simp)
        unfold B_check_parts_0
        clear he ih2 hnode hpo
        walk_at "evd"
        exact hbi ⟨_, rfl⟩
      · rintro e ⟨q, rfl⟩
        clear ih2 hnode hpo
        walk_at "evd"
        exact hqi ⟨rfl, rfl⟩
    obtain ⟨o, os, h, rfl, rfl⟩ := H.get
    exact h
theorem check_cond_ok {N R : O} {nms regs : List Str} (hN : N.d = .lst (nms.map .str)) (hR : R.d = .lst (regs.map .str)) (hn : ∀ y ∈ nms, LtrZ y) (hr : ∀ y ∈ regs, LtrZ y) {m : Nat} {c : Cn} (hc : COk nms regs m c) (hm : m ≤ 6) (hs : c.size ≤ 20) : F_check_condition [.fr c.d, N, R] = some (.ok (.fr .non) [.fr c.d, N, R]) := by
  have h1 := check_parts_ok hN hR hn hr 40 6 c (by omega) (hc.mono hm)
  rw [show ((6 : Nat) : Int) = 6 from rfl] at h1
  have h2 := size_ok nms regs 40 m c hc (by omega) (by omega)
  have h3 : ¬ (20 : Int) < (c.size : Int) := by omega
  unfold F_check_condition G_check_condition
  clear hc hn hr hN hR hs
  walk_at "evd"
theorem check_src_ok {N : O} {nms : List Str} (hN : N.d = .lst (nms.map .str)) (hn : ∀ y ∈ nms, LtrZ y) {s : Sc} (hs : SOk nms s) : F_check_source [.fr s.d, N] = some (.ok (.fr .non) [.fr s.d, N]) := by
  have n1 : ¬ PySem.Str.ofString "text" = PySem.Str.ofString "value" := by decide +kernel
  have n2 : ¬ PySem.Str.ofString "fresh" = PySem.Str.ofString "value" := by decide +kernel
  have n3 : ¬ PySem.Str.ofString "fresh" = PySem.Str.ofString "text" := by decide +kernel
  have sa : ∀ (x y : D) (a b c d : Option O), setAll [2, 3] [x, y] [a, b, c, d] = some [a, b, some (.fr x), some (.fr y)] := fun _ _ _ _ _ _ => rfl
  unfold F_check_source G_check_source
  cases s with
  | val n =>
    have c1 := check_name_ok hN hn hs
    have e : (Sc.val n).d = .tup [.str (PySem.Str.ofString "value"), .str n] := rfl
    rw [e]
    clear hn hs hN e
    walk_at "evd"
  | txt z =>
    have c1 := text_yes hs.1 (by have := hs.2; omega)
    have e : (Sc.txt z).d = .tup [.str (PySem.Str.ofString "text"), .str z] := rfl
    have h8 : ¬ (8 : Int) < (z.length : Int) := by have := hs.2; omega
    have hz : z.length ≤ sizeLine := sz_of (by have := hs.2; omega)
    rw [e]
    clear hn hs hN e
    walk_at "evd"
  | frs i =>
    have e : (Sc.frs i).d = .tup [.str (PySem.Str.ofString "fresh"), .int i] := rfl
    have g : gNotIn [.int i, .tup [.int 0, .int 1, .int 2]] = some (bO false) := by
      have s2 : shp (.tup [.int 0, .int 1, .int 2]) = true := by decide +kernel
      have : i = 0 ∨ i = 1 ∨ i = 2 := by have := hs.1; have := hs.2; omega
      have key : ∀ i : Int, i = 0 ∨ i = 1 ∨ i = 2 → inL (.int i) [.int 0, .int 1, .int 2] = true := by rintro _ (rfl | rfl | rfl) <;> decide +kernel
      rw [gNotIn_t (shp_i i) s2, key i this]; rfl
    rw [e]
    clear hn hs hN e
    walk_at "evd"
theorem check_ans_ok {N : O} {nms : List Str} (hN : N.d = .lst (nms.map .str)) (hn : ∀ y ∈ nms, LtrZ y) {r : Rl} (hw : LtrZ r.w ∧ 1 ≤ r.w.length ∧ r.w.length ≤ 12) (hs : ∀ s ∈ r.src, SOk nms s) (hl : r.src.length ≤ 4) : F_check_answer [.fr r.ans, N] = some (.ok (.fr .non) [.fr r.ans, N]) := by
  have H : FEv (F_check_answer [.fr r.ans, N]) (@hq _ _ ⟨fun o os => o = .fr .non ∧ os = [.fr r.ans, N]⟩) (fun _ _ => False) := by
    have e : r.ans = .tup (.str r.w :: r.src.map Sc.d) := rfl
    have c1 := name_yes hw
    have l1 : (1 : Int) ≤ (r.src.length : Int) + 1 := by omega
    have l2 : (r.src.length : Int) + 1 ≤ 5 := by omega
    have ct : cutD (.str r.w :: r.src.map Sc.d) (some 1) none = r.src.map Sc.d := by rw [cutD_1]; rfl
    have hc := fun s hs' => check_src_ok hN hn (hs s hs')
    rw [e]
    unfold F_check_answer G_check_answer
    clear e hw hs hl hN hn
    walk_at "evd"
    refine Ev_forP (f := Sc.d) (fun done e => @Dn.hb _ ⟨fun e => ∃ q, e = [some (.fr (.tup (.str r.w :: r.src.map Sc.d))), some N, q]⟩ e) _ r.src [] _ (hbi ⟨_, rfl⟩) ?_ ?_
    · rintro pre x post e he ⟨q, rfl⟩
      refine ⟨_, rfl, ?_⟩
      rw [List.nil_append] at he
      have hx := hc x (by rw [he]; simp)
      unfold B_check_answer_0
      clear he hc c1 l1 l2 ct
      walk_at "evd"
      exact hbi ⟨_, rfl⟩
    · rintro e ⟨q, rfl⟩
      clear hc c1 l1 l2 ct
      walk_at "evd"
      exact hqi ⟨rfl, rfl⟩
  obtain ⟨o, os, h, rfl, rfl⟩ := H.get
  exact h
theorem sc_shp {nms : List Str} (hn : ∀ y ∈ nms, LtrZ y) {s : Sc} (h : SOk nms s) : Shp 1 s.d ∧ s.d.pl = true := by
  have two : ∀ (a b : D), Shp 0 a → Shp 0 b → a.pl = true → b.pl = true → Shp 1 (.tup [a, b]) ∧ (D.tup [a, b]).pl = true := fun a b h1 h2 h3 h4 => by
    refine ⟨shp_tup fun d hd => ?_, ?_⟩
    · simp only [List.mem_cons, List.not_mem_nil, or_false] at hd
      rcases hd with hd | hd <;> rw [hd]
      · exact h1
      · exact h2
    · rw [D.pl]
      refine D.pls_of fun d hd => ?_
      simp only [List.mem_cons, List.not_mem_nil, or_false] at hd
      rcases hd with hd | hd <;> rw [hd]
      · exact h3
      · exact h4
  cases s with
  | val n => exact two _ _ (shp_str (by decide +kernel)) (shp_str (hn n h).ok) (by rw [D.pl]) (by rw [D.pl])
  | txt z => exact two _ _ (shp_str (by decide +kernel)) (shp_str h.1.ok) (by rw [D.pl]) (by rw [D.pl])
  | frs i => exact two _ _ (shp_str (by decide +kernel)) (shp_int i) (by rw [D.pl]) (by rw [D.pl])
theorem check_line_ok {N : O} {nms : List Str} (hN : N.d = .lst (nms.map .str)) (hn : ∀ y ∈ nms, LtrZ y) {l : Ln} (hl : LOk nms l) : F_check_line [.fr l.d, N] = some (.ok (.fr .non) [.fr l.d, N]) := by
  have one : ∀ z : Str, (∀ c ∈ zl z, c < 1114112) → Shp 1 (.tup [.str z]) ∧ (D.tup [.str z]).pl = true := fun z hz => by
    refine ⟨shp_tup fun d hd => ?_, ?_⟩
    · rw [List.mem_singleton.mp hd]; exact shp_str hz
    · rw [D.pl]; exact D.pls_of fun d hd => by rw [List.mem_singleton.mp hd, D.pl]
  have k1 := one sKeep (by decide +kernel)
  have k2 := one sClear (by decide +kernel)
  have s2 : shp (.tup [.tup [.str (PySem.Str.ofString "keep")], .tup [.str (PySem.Str.ofString "clear")]]) = true := (shp_tup (k := 1) fun d hd => by
    simp only [List.mem_cons, List.not_mem_nil, or_false] at hd
    rcases hd with hd | hd <;> rw [hd]
    · exact k1.1
    · exact k2.1).shp (by omega)
  have pls : ∀ d ∈ [D.tup [.str sKeep], D.tup [.str sClear]], d.pl = true := fun d hd => by
    simp only [List.mem_cons, List.not_mem_nil, or_false] at hd
    rcases hd with hd | hd <;> rw [hd]
    · exact k1.2
    · exact k2.2
  unfold F_check_line G_check_line
  cases l with
  | keep =>
    have e : Ln.keep.d = .tup [.str (PySem.Str.ofString "keep")] := rfl
    have g : gNotIn [.tup [.str (PySem.Str.ofString "keep")], .tup [.tup [.str (PySem.Str.ofString "keep")], .tup [.str (PySem.Str.ofString "clear")]]] = some (bO false) := by
      rw [gNotIn_t (k1.1.shp (by omega)) s2, (inL_pl k1.2 pls).mpr (by simp)]; rfl
    rw [e]
    clear k1 k2 s2 pls one hn hN e
    walk_at "evd"
  | clear =>
    have e : Ln.clear.d = .tup [.str (PySem.Str.ofString "clear")] := rfl
    have g : gNotIn [.tup [.str (PySem.Str.ofString "clear")], .tup [.tup [.str (PySem.Str.ofString "keep")], .tup [.str (PySem.Str.ofString "clear")]]] = some (bO false) := by
      rw [gNotIn_t (k2.1.shp (by omega)) s2, (inL_pl k2.2 pls).mpr (by simp)]; rfl
    rw [e]
    clear k1 k2 s2 pls one hn hN e
    walk_at "evd"
  | src s =>
    have e : (Ln.src s).d = s.d := rfl
    have hs := sc_shp hn hl
    have hne : s.d ∉ [D.tup [.str sKeep], D.tup [.str sClear]] := fun h => by
      simp only [List.mem_cons, List.not_mem_nil, or_false] at h
      cases s <;> rcases h with h | h <;> (injection h with h; injection h with h1 h2; cases h2)
    have g : gNotIn [s.d, .tup [.tup [.str (PySem.Str.ofString "keep")], .tup [.str (PySem.Str.ofString "clear")]]] = some (bO true) := by
      rw [gNotIn_t (hs.1.shp (by omega)) s2, inL_no hs.2 pls hne]; rfl
    have c1 := check_src_ok hN hn hl
    rw [e]
    generalize s.d = sd at *
    clear k1 k2 s2 pls one hn hN e hs hne hl
    walk_at "evd"
theorem value_names_ok {rq : List (Str × List Str)} {kd : Str} {vs : List Str} (nd : (rq.map (·.1)).Nodup) (h : (kd, vs) ∈ rq) : F_value_names [.fr (.lst (rq.map ktD)), .fr (.str kd)] = some (.ok (.lst (vs.map .str)) [.fr (.lst (rq.map ktD)), .fr (.str kd)]) := by
  have H : FEv (F_value_names [.fr (.lst (rq.map ktD)), .fr (.str kd)]) (@hq _ _ ⟨fun o os => o = .lst (vs.map .str) ∧ os = [.fr (.lst (rq.map ktD)), .fr (.str kd)]⟩) (fun _ _ => False) := by
    have uniq : ∀ p ∈ rq, p.1 = kd → p.2 = vs := fun p hp e => by
      have key : ∀ l : List (Str × List Str), (l.map (·.1)).Nodup → p ∈ l → (kd, vs) ∈ l → p.2 = vs := by
        intro l
        induction l with
        | nil => intro _ h; exact (List.not_mem_nil h).elim
        | cons x l ih =>
          intro nd h1 h2
          rw [List.map_cons] at nd
          obtain ⟨n1, n2⟩ := List.nodup_cons.mp nd
          rcases List.mem_cons.mp h1 with a | a <;> rcases List.mem_cons.mp h2 with b | b
          · rw [a, ← b]
          · exact absurd (List.mem_map.mpr ⟨(kd, vs), b, by rw [← a]; exact e.symm⟩) n1
          · exact absurd (List.mem_map.mpr ⟨p, a, by rw [← b]; exact e⟩) n1
          · exact ih n2 a b
      exact key rq nd hp h
    unfold F_value_names G_value_names
    walk_at "evd"
    refine Ev_forP (f := ktD) (fun done e => @Dn.hb _ ⟨fun e => (∀ p ∈ done, p.1 ≠ kd) ∧ ∃ q, e = [some (.fr (.lst (rq.map ktD))), some (.fr (.str kd)), q]⟩ e) _ rq [] _ (hbi ⟨fun p hp => (List.not_mem_nil hp).elim, _, rfl⟩) ?_ ?_
    · rintro pre x post e he ⟨hp, q, rfl⟩
      refine ⟨_, rfl, ?_⟩
      rw [List.nil_append] at he
      have hx : x ∈ rq := by rw [he]; simp
      have u := uniq x hx
      have ke : ktD x = .tup (.str x.1 :: x.2.map .str) := rfl
      have ct : cutD (.str x.1 :: x.2.map D.str) (some 1) none = x.2.map D.str := by rw [cutD_1]; rfl
      rw [ke]
      generalize rq.map ktD = RQ at *
      unfold B_value_names_0
      by_cases hk : x.1 = kd
      · have u := u hk
        rw [u] at ct ⊢
        rw [hk] at ct ⊢
        clear he hp hx uniq nd h ke hk u
        walk_at "evd"
        first | exact hqi ⟨rfl, rfl⟩ | done
      · have s : ∀ p ∈ pre ++ [x], p.1 ≠ kd := fun p hpp => (List.mem_append.mp hpp).elim (hp p) fun h => by rw [List.mem_singleton.mp h]; exact hk
        clear he hp hx uniq nd h ke u ct
        walk_at "evd"
        exact hbi ⟨s, _, rfl⟩
    · rintro e ⟨hp, q, rfl⟩
      exact absurd rfl (hp _ h)
  obtain ⟨o, os, h, rfl, rfl⟩ := H.get
  exact h
theorem nms_ltr {rg vs : List Str} (h1 : ∀ z ∈ rg, LtrZ z) (h2 : ∀ z ∈ vs, LtrZ z) : ∀ z ∈ nmsOf rg vs, LtrZ z := fun z hz => by
  unfold nmsOf at hz
  rcases List.mem_append.mp hz with hz | hz
  · rcases List.mem_append.mp hz with hz | hz
    · exact h1 z hz
    · exact h2 z hz
  · rw [List.mem_singleton.mp hz]; unfold LtrZ; decide +kernel
theorem check_rule_ok {st rg : List Str} {rq : List (Str × List Str)} {r : Rl} (hr : ROk st rg rq r) (nd : (rq.map (·.1)).Nodup) (hst : ∀ z ∈ st, LtrZ z) (hrg : ∀ z ∈ rg, LtrZ z) (hrq : ∀ p ∈ rq, LtrZ p.1 ∧ p.2.length ≤ 20 ∧ ∀ z ∈ p.2, LtrZ z) (hrl : rg.length ≤ 20) :
    F_check_rule [.fr r.d, .fr (.lst (st.map .str)), .fr (.lst (rg.map .str)), .fr (.lst (rq.map ktD))] = some (.ok (.fr .non) [.fr r.d, .fr (.lst (st.map .str)), .fr (.lst (rg.map .str)), .fr (.lst (rq.map ktD))]) := by
  obtain ⟨vs, hk, hc, hs, hl⟩ := hr.kd
  have hv := hrq _ hk
  have hN : ∀ z ∈ nmsOf rg vs, LtrZ z := nms_ltr hrg hv.2.2
  have H : FEv (F_check_rule [.fr r.d, .fr (.lst (st.map .str)), .fr (.lst (rg.map .str)), .fr (.lst (rq.map ktD))]) (@hq _ _ ⟨fun o os => o = .fr .non ∧ os = [.fr r.d, .fr (.lst (st.map .str)), .fr (.lst (rg.map .str)), .fr (.lst (rq.map ktD))]⟩) (fun _ _ => False) := by
    have de : r.d = .tup [stD r.st, .str r.kd, r.c.d, r.ans, .tup (r.ln.map Ln.d), .str r.to] := rfl
    have sa : ∀ (x0 x1 x2 x3 x4 x5 : D) (a b c d : Option O) (y10 y11 : Option O), setAll [4, 5, 6, 7, 8, 9] [x0, x1, x2, x3, x4, x5] [a, b, c, d, none, none, none, none, none, none, y10, y11] = some [a, b, c, d, some (.fr x0), some (.fr x1), some (.fr x2), some (.fr x3), some (.fr x4), some (.fr x5), y10, y11] := fun _ _ _ _ _ _ _ _ _ _ _ _ => rfl
    have vn := value_names_ok nd hk
    have nn2 : (nmsOf rg vs).map D.str = rg.map D.str ++ vs.map D.str ++ [.str (PySem.Str.ofString "self")] := by unfold nmsOf; rw [List.map_append, List.map_append]; rfl
    have nn : (nmsOf rg vs).map D.str = rg.map D.str ++ (vs.map D.str ++ [.str (PySem.Str.ofString "self")]) := by rw [nn2, List.append_assoc]
    have hv2 : vs.length ≤ 20 := hv.2.1
    have l1 : rg.length + vs.length ≤ sizeLine := by rw [sizeLine_eq]; omega
    have l2 : rg.length + vs.length + 1 ≤ sizeLine := by rw [sizeLine_eq]; omega
    have cc := check_cond_ok (N := .lst ((nmsOf rg vs).map .str)) (R := .fr (.lst (rg.map .str))) rfl rfl hN hrg hc (by omega) hr.sz
    have ca := check_ans_ok (N := .lst ((nmsOf rg vs).map .str)) rfl hN (r := r) hr.w hs hr.sl
    have cl := fun l hl' => check_line_ok (N := .lst ((nmsOf rg vs).map .str)) rfl hN (hl l hl')
    have to := notinL (hst r.to hr.to) hst hr.to
    have ll : (r.ln.length : Int) = (rg.length : Int) := by rw [hr.ll]
    have hk0 : r.st = none ∨ ∃ z ∈ st, r.st = some z ∧ ¬ r.kd = PySem.Str.ofString "new" := hr.s
    have lne : (r.ln.map Ln.d).length = rg.length := by rw [List.length_map, hr.ll]
    rw [nn] at cc ca cl
    rw [de]
    have body : ∀ SD : D, Ev (forL (.n 11) B_check_rule_0 (r.ln.map Ln.d) [some (.fr (.tup [SD, .str r.kd, r.c.d, r.ans, .tup (r.ln.map Ln.d), .str r.to])), some (.fr (.lst (st.map .str))), some (.fr (.lst (rg.map .str))), some (.fr (.lst (rq.map ktD))), some (.fr SD), some (.fr (.str r.kd)), some (.fr r.c.d), some (.fr r.ans), some (.fr (.tup (r.ln.map Ln.d))), some (.fr (.str r.to)), some (.lst (rg.map D.str ++ (vs.map D.str ++ [.str (PySem.Str.ofString "self")]))), none]) (@hq _ _ ⟨fun fl e => fl = .next ∧ ∃ q, e = [some (.fr (.tup [SD, .str r.kd, r.c.d, r.ans, .tup (r.ln.map Ln.d), .str r.to])), some (.fr (.lst (st.map .str))), some (.fr (.lst (rg.map .str))), some (.fr (.lst (rq.map ktD))), some (.fr SD), some (.fr (.str r.kd)), some (.fr r.c.d), some (.fr r.ans), some (.fr (.tup (r.ln.map Ln.d))), some (.fr (.str r.to)), some (.lst (rg.map D.str ++ (vs.map D.str ++ [.str (PySem.Str.ofString "self")]))), q]⟩) (fun _ _ => False) := fun SD => by
      refine Ev_forP (f := Ln.d) (fun done e => @Dn.hb _ ⟨fun e => ∃ q, e = [some (.fr (.tup [SD, .str r.kd, r.c.d, r.ans, .tup (r.ln.map Ln.d), .str r.to])), some (.fr (.lst (st.map .str))), some (.fr (.lst (rg.map .str))), some (.fr (.lst (rq.map ktD))), some (.fr SD), some (.fr (.str r.kd)), some (.fr r.c.d), some (.fr r.ans), some (.fr (.tup (r.ln.map Ln.d))), some (.fr (.str r.to)), some (.lst (rg.map D.str ++ (vs.map D.str ++ [.str (PySem.Str.ofString "self")]))), q]⟩ e) _ r.ln [] _ (hbi ⟨_, rfl⟩) ?_ (fun e ⟨q, h⟩ => hqi ⟨rfl, q, h⟩)
      rintro pre x post e he ⟨q, rfl⟩
      refine ⟨_, rfl, ?_⟩
      rw [List.nil_append] at he
      have hx := cl x (by rw [he]; simp)
      generalize r.ln.map Ln.d = LN at *
      generalize x.d = xd at *
      unfold B_check_rule_0
      clear he cl cc ca to vn sa nn nn2 l1 l2 hk0 ll lne de hst hrg hrq hN hv hl hs hc nd hr
      walk_at "evd"
      exact hbi ⟨_, rfl⟩
    have out : ∀ (SD : D) (fl : Fl) (e : Sl) (P : Prop), (fl = .next ∧ ∃ q, e = [some (.fr (.tup [SD, .str r.kd, r.c.d, r.ans, .tup (r.ln.map Ln.d), .str r.to])), some (.fr (.lst (st.map .str))), some (.fr (.lst (rg.map .str))), some (.fr (.lst (rq.map ktD))), some (.fr SD), some (.fr (.str r.kd)), some (.fr r.c.d), some (.fr r.ans), some (.fr (.tup (r.ln.map Ln.d))), some (.fr (.str r.to)), some (.lst (rg.map D.str ++ (vs.map D.str ++ [.str (PySem.Str.ofString "self")]))), q]) → (∀ q, fl = .next → e = [some (.fr (.tup [SD, .str r.kd, r.c.d, r.ans, .tup (r.ln.map Ln.d), .str r.to])), some (.fr (.lst (st.map .str))), some (.fr (.lst (rg.map .str))), some (.fr (.lst (rq.map ktD))), some (.fr SD), some (.fr (.str r.kd)), some (.fr r.c.d), some (.fr r.ans), some (.fr (.tup (r.ln.map Ln.d))), some (.fr (.str r.to)), some (.lst (rg.map D.str ++ (vs.map D.str ++ [.str (PySem.Str.ofString "self")]))), q] → P) → P := fun SD fl e P ⟨h1, q, h2⟩ h => h q h1 h2
    unfold F_check_rule G_check_rule
    rcases hk0 with h0 | ⟨z, zm, h0, hnew⟩
    · rw [h0]
      have e1 : stD none = .non := rfl
      have bd := body .non
      have ot := out .non
      rw [e1]
      generalize r.ln.map Ln.d = LN at *
      generalize st.map D.str = SL at *
      generalize rq.map ktD = QL at *
      generalize r.c.d = CD at *
      generalize r.ans = AN at *
      clear cl de hst hrg hrq hN hv hl hs hc nd hr nn nn2 body out ll e1
      walk_at "evd"
      refine Ev.mono bd ?_ (fun _ _ (h : False) => h.elim)
      intro fl e zz
      refine ot fl e _ zz fun q h1 h2 => ?_
      subst h1 h2
      clear bd ot zz
      walk_at "evd"
      exact hqi ⟨rfl, rfl⟩
    · rw [h0]
      have e1 : stD (some z) = .str z := rfl
      have bd := body (.str z)
      have ot := out (.str z)
      have zi := notinL (hst z zm) hst zm
      rw [e1]
      generalize r.ln.map Ln.d = LN at *
      generalize st.map D.str = SL at *
      generalize rq.map ktD = QL at *
      generalize r.c.d = CD at *
      generalize r.ans = AN at *
      clear cl de hst hrg hrq hN hv hl hs hc nd hr nn nn2 body out ll e1 zm
      walk_at "evd"
      refine Ev.mono bd ?_ (fun _ _ (h : False) => h.elim)
      intro fl e zz
      refine ot fl e _ zz fun q h1 h2 => ?_
      subst h1 h2
      clear bd ot zz
      walk_at "evd"
      exact hqi ⟨rfl, rfl⟩
  obtain ⟨o, os, h, rfl, rfl⟩ := H.get
  exact h
theorem inLf {z : Str} {zs : List Str} (hz : LtrZ z) (hs : ∀ y ∈ zs, LtrZ y) (h : z ∉ zs) : gIn [.str z, .lst (zs.map .str)] = some (bO false) := by
  rw [gIn_l (shp_z hz.ok) (strs_shp zs hs)]
  rw [show inL (.str z) (zs.map .str) = false from Bool.eq_false_iff.mpr fun w => h ((inL_str z zs).mp w)]
theorem nd_take : ∀ {l : List Str} {i : Nat} {z : Str}, l.Nodup → l[i]? = some z → z ∉ l.take i
  | [], i, z, _, h => by simp at h
  | x :: l, 0, z, _, _ => by simp
  | x :: l, i + 1, z, nd, h => by
    obtain ⟨n1, n2⟩ := List.nodup_cons.mp nd
    have h' : l[i]? = some z := by simpa using h
    rw [List.take_succ_cons]
    intro hm
    rcases List.mem_cons.mp hm with e | hm
    · exact n1 (e ▸ List.mem_of_getElem? h')
    · exact nd_take n2 h' hm
theorem check_names_ok {nms : List Str} (h : ∀ z ∈ nms, Nm z) (nd : nms.Nodup) : F_check_names [.fr (.lst (nms.map .str))] = some (.ok (.fr .non) [.fr (.lst (nms.map .str))]) := by
  have H : FEv (F_check_names [.fr (.lst (nms.map .str))]) (@hq _ _ ⟨fun o os => o = .fr .non ∧ os = [.fr (.lst (nms.map .str))]⟩) (fun _ _ => False) := by
    unfold F_check_names G_check_names
    walk_at "evd"
    refine Ev_forL (fun i e => @Dn.hb _ ⟨fun e => ∃ q1 q2, e = [some (.fr (.lst (nms.map .str))), q1, q2]⟩ e) _ (enumD 0 (nms.map .str)) _ (hbi ⟨_, _, rfl⟩) ?_ ?_
    · rintro i d e hd ⟨q1, q2, rfl⟩
      have hi : i < nms.length := by
        have := (List.getElem?_eq_some_iff.mp hd).1
        rw [enumD_len, List.length_map] at this
        exact this
      have hz : nms[i]? = some nms[i] := List.getElem?_eq_getElem hi
      have hm : nms[i] ∈ nms := List.getElem_mem hi
      generalize nms[i] = z at *
      have hg := enumD_get (nms.map D.str) 0 i (.str z) (by rw [List.getElem?_map, hz]; rfl)
      rw [hd] at hg
      injection hg with hg
      subst hg
      refine ⟨[some (.fr (.lst (nms.map .str))), some (iO (i : Int)), some (sO z)], by rw [Nat.zero_add]; rfl, ?_⟩
      have c1 := name_yes (h z hm)
      have ct : cutD (nms.map D.str) none (some (i : Int)) = (nms.take i).map D.str := by rw [cutD_hi, List.map_take]
      have g := inLf (h z hm).1 (fun y hy => (h y (List.mem_of_mem_take hy)).1) (nd_take nd hz)
      rw [← ct] at g
      unfold B_check_names_0
      generalize nms.map D.str = L at *
      clear hd h nd hz hm hi ct
      walk_at "evd"
      first | exact hbi ⟨_, _, rfl⟩ | done
    · rintro e ⟨q1, q2, rfl⟩
      clear h nd
      walk_at "evd"
      exact hqi ⟨rfl, rfl⟩
  obtain ⟨o, os, h, rfl, rfl⟩ := H.get
  exact h
/-- kinds that are good beside these registers -/
structure KOk (rg : List Str) (rq : List (Str × List Str)) : Prop where
  len : 1 ≤ rq.length ∧ rq.length ≤ 6
  k : ∀ p ∈ rq, Nm p.1 ∧ NL (rg ++ [sSelf]) p.2 ∧ p.2.length ≤ 3
  nd : (rq.map (·.1)).Nodup
  hd : (rq.map (·.1)).head? = some sNew
theorem is_kind_ok {rg : List Str} (hrg : ∀ z ∈ rg, LtrZ z) {p : Str × List Str} (h1 : Nm p.1) (h2 : NL (rg ++ [sSelf]) p.2) (h3 : p.2.length ≤ 3) : F_is_kind [.fr (ktD p), .fr (.lst (rg.map .str))] = some (.ok (bO true) [.fr (ktD p), .fr (.lst (rg.map .str))]) := by
  have H : FEv (F_is_kind [.fr (ktD p), .fr (.lst (rg.map .str))]) (@hq _ _ ⟨fun o os => o = bO true ∧ os = [.fr (ktD p), .fr (.lst (rg.map .str))]⟩) (fun _ _ => False) := by
    have ke : ktD p = .tup (.str p.1 :: p.2.map .str) := rfl
    have l1 : (1 : Int) ≤ (p.2.length : Int) + 1 := by omega
    have l2 : (p.2.length : Int) + 1 ≤ 4 := by omega
    have hall : ∀ z ∈ p.1 :: p.2, Nm z := fun z hz => (List.mem_cons.mp hz).elim (fun e => e ▸ h1) (h2.nm z)
    have hc : ∀ q0 q1 q2 q3, lcL [4] (.n 4) cYes C_is_kind_0 (.str p.1 :: p.2.map .str) [] [q0, q1, q2, q3, none] = some ((p.1 :: p.2).map fun _ => D.bl true, [q0, q1, q2, q3, none]) := fun q0 q1 q2 q3 => by
      have := lc_map (own := [4]) (tg := .n 4) (C := C_is_kind_0) (e := [q0, q1, q2, q3, none]) D.str (fun _ => D.bl true) (p.1 :: p.2) (by rw [List.length_cons]; omega) fun x hx => ⟨_, rfl, by
        have c := name_yes (hall x hx)
        unfold C_is_kind_0
        clear hx hall h1 h2 hrg ke
        walk_at "evd"⟩
      exact this
    have ha : gAll [.lst ((p.1 :: p.2).map fun _ => D.bl true)] = some (bO true) := by
      rw [all_bl (fun _ => true)]
      rw [show (p.1 :: p.2).all (fun _ => true) = true from List.all_eq_true.mpr fun _ _ => rfl]
    have ct : cutD (.str p.1 :: p.2.map D.str) (some 1) none = p.2.map D.str := by rw [cutD_1]; rfl
    have ri : inR (p.2.length : Int) = true := inR_pos (by omega) (by omega)
    rw [ke]
    generalize ((p.1 :: p.2).map fun _ => D.bl true) = BL at *
    unfold F_is_kind G_is_kind
    clear hall ke
    walk_at "evd"
    refine Ev_forL (fun i e => @Dn.hb _ ⟨fun e => ∃ q3, e = [some (.fr (.tup (.str p.1 :: p.2.map .str))), some (.fr (.lst (rg.map .str))), some (.fr (.tup (p.2.map .str))), q3, none]⟩ e) _ (rngD 0 (p.2.length : Int)) _ (hbi ⟨_, rfl⟩) ?_ ?_
    · rintro i d e hd ⟨q3, rfl⟩
      obtain ⟨rfl, hi⟩ := rng0_get hd
      refine ⟨_, rfl, ?_⟩
      have hi' : i < p.2.length := by omega
      have hz : p.2[i]? = some p.2[i] := List.getElem?_eq_getElem hi'
      have hm : p.2[i] ∈ p.2 := List.getElem_mem hi'
      generalize p.2[i] = z at *
      have at1 : atI (p.2.map D.str) (i : Int) = some (.str z) := by rw [atI_cn, List.getElem?_map, hz]; rfl
      have hb := h2.nb z hm
      have ns : ¬ z = PySem.Str.ofString "self" := fun e => hb (List.mem_append_right _ (by rw [e]; exact List.mem_singleton.mpr rfl))
      have g1 := inLf (h2.nm z hm).1 hrg fun w => hb (List.mem_append_left _ w)
      have ct2 : cutD (p.2.map D.str) none (some (i : Int)) = (p.2.take i).map D.str := by rw [cutD_hi, List.map_take]
      have g2 : gIn [.str z, .tup ((p.2.take i).map .str)] = some (bO false) := by
        have hok : ∀ y ∈ p.2.take i, ∀ c ∈ zl y, c < 1114112 := fun y hy => (h2.nm y (List.mem_of_mem_take hy)).1.ok
        have s2 : shp (.tup ((p.2.take i).map .str)) = true := (shp_tup (k := 0) fun x hx => let ⟨y, hy, e⟩ := List.mem_map.mp hx; e ▸ shp_str (hok y hy)).shp (by omega)
        rw [gIn_t (shp_z (h2.nm z hm).1.ok) s2]
        rw [show inL (.str z) ((p.2.take i).map .str) = false from Bool.eq_false_iff.mpr fun w => nd_take h2.nd hz ((inL_str z _).mp w)]
      rw [← ct2] at g2
      unfold B_is_kind_0
      generalize p.2.map D.str = L at *
      generalize rg.map D.str = RL at *
      clear hd hi hi' hz hm hb h1 h2 hrg hc ha ct ct2 l1 l2 ri
      walk_at "evd"
      first | exact hbi ⟨_, rfl⟩ | done
    · rintro e ⟨q3, rfl⟩
      clear hc ha ct l1 l2 ri h1 h2 hrg
      walk_at "evd"
      exact hqi ⟨rfl, rfl⟩
  obtain ⟨o, os, h, rfl, rfl⟩ := H.get
  exact h
theorem check_kinds_ok {rg : List Str} (hrg : ∀ z ∈ rg, LtrZ z) {rq : List (Str × List Str)} (h : KOk rg rq) : F_check_kinds [.fr (.lst (rq.map ktD)), .fr (.lst (rg.map .str))] = some (.ok (.fr .non) [.fr (.lst (rq.map ktD)), .fr (.lst (rg.map .str))]) := by
  have H : FEv (F_check_kinds [.fr (.lst (rq.map ktD)), .fr (.lst (rg.map .str))]) (@hq _ _ ⟨fun o os => o = .fr .non ∧ os = [.fr (.lst (rq.map ktD)), .fr (.lst (rg.map .str))]⟩) (fun _ _ => False) := by
    have l1 : (1 : Int) ≤ (rq.length : Int) := by have := h.len; omega
    have l2 : (rq.length : Int) ≤ 6 := by have := h.len; omega
    have hc : ∀ q0 q1 q3 q4, lcL [2] (.n 2) cYes C_check_kinds_0 (rq.map ktD) [] [q0, q1, none, q3, q4] = some ((rq.map (·.1)).map D.str, [q0, q1, none, q3, q4]) := fun q0 q1 q3 q4 => by
      have := lc_map (own := [2]) (tg := .n 2) (C := C_check_kinds_0) (e := [q0, q1, none, q3, q4]) ktD (fun p => D.str p.1) rq (by omega) fun x hx => ⟨_, rfl, by
        have ke : ktD x = .tup (.str x.1 :: x.2.map .str) := rfl
        rw [ke]
        unfold C_check_kinds_0
        clear hx h hrg ke
        walk_at "evd"⟩
      rw [this, List.map_map]; rfl
    have hik : ∀ p ∈ rq, _ := fun p hp => is_kind_ok hrg (h.k p hp).1 (h.k p hp).2.1 (h.k p hp).2.2
    have loop : ∀ q3, Ev (forL (.n 2) B_check_kinds_0 (rq.map ktD) [some (.fr (.lst (rq.map ktD))), some (.fr (.lst (rg.map .str))), none, q3, none]) (@hq _ _ ⟨fun fl e => fl = .next ∧ ∃ q2, (q2 = none ∨ ∃ d, q2 = some (.fr d)) ∧ e = [some (.fr (.lst (rq.map ktD))), some (.fr (.lst (rg.map .str))), q2, q3, none]⟩) (fun _ _ => False) := fun q3 => by
      refine Ev_forP (f := ktD) (fun done e => @Dn.hb _ ⟨fun e => ∃ q2, (q2 = none ∨ ∃ d, q2 = some (.fr d)) ∧ e = [some (.fr (.lst (rq.map ktD))), some (.fr (.lst (rg.map .str))), q2, q3, none]⟩ e) _ rq [] _ (hbi ⟨_, .inl rfl, rfl⟩) ?_ (fun e ⟨q, h1, h⟩ => hqi ⟨rfl, q, h1, h⟩)
      rintro pre x post e he ⟨q2, _, rfl⟩
      refine ⟨_, rfl, ?_⟩
      rw [List.nil_append] at he
      have hx := hik x (by rw [he]; simp)
      generalize ktD x = kx at *
      generalize rq.map ktD = RQ at *
      unfold B_check_kinds_0
      clear he hik h hrg hc l1 l2
      walk_at "evd"
      exact hbi ⟨_, .inr ⟨_, rfl⟩, rfl⟩
    have out : ∀ (fl : Fl) (e : Sl) (P : Prop), (fl = .next ∧ ∃ q2, (q2 = none ∨ ∃ d, q2 = some (.fr d)) ∧ e = [some (.fr (.lst (rq.map ktD))), some (.fr (.lst (rg.map .str))), q2, none, none]) → (∀ q2, fl = .next → (q2 = none ∨ ∃ d, q2 = some (.fr d)) → e = [some (.fr (.lst (rq.map ktD))), some (.fr (.lst (rg.map .str))), q2, none, none] → P) → P := fun fl e P ⟨h1, q, h0, h2⟩ h => h q h1 h0 h2
    have lp := loop none
    have ws : ∀ z ∈ rq.map (·.1), LtrZ z := fun z hz => by
      obtain ⟨p, hp, rfl⟩ := List.mem_map.mp hz
      exact (h.k p hp).1.1
    have nd := h.nd
    have hd := h.hd
    have wl : (rq.map (·.1)).length = rq.length := List.length_map ..
    have at0 : atI ((rq.map (·.1)).map D.str) 0 = some (.str (PySem.Str.ofString "new")) := by
      rw [show (0 : Int) = ((0 : Nat) : Int) from rfl, atI_cn, List.getElem?_map, ← List.head?_eq_getElem?, hd]; rfl
    have ri : inR (rq.length : Int) = true := inR_pos (by omega) (by omega)
    generalize hws : rq.map (·.1) = W at *
    have wl2 : ((W.map D.str).length : Int) = (rq.length : Int) := by rw [List.length_map, wl]
    have loop2 : ∀ q2, Ev (forL (.n 4) B_check_kinds_1 (rngD 0 (rq.length : Int)) [some (.fr (.lst (rq.map ktD))), some (.fr (.lst (rg.map .str))), q2, some (.lst (W.map D.str)), none]) (@hq _ _ ⟨fun fl e => fl = .next ∧ ∃ q4, e = [some (.fr (.lst (rq.map ktD))), some (.fr (.lst (rg.map .str))), q2, some (.lst (W.map D.str)), q4]⟩) (fun _ _ => False) := fun q2 => by
      refine Ev_forL (fun i e => @Dn.hb _ ⟨fun e => ∃ q4, e = [some (.fr (.lst (rq.map ktD))), some (.fr (.lst (rg.map .str))), q2, some (.lst (W.map D.str)), q4]⟩ e) _ (rngD 0 (rq.length : Int)) _ (hbi ⟨_, rfl⟩) ?_ (fun e ⟨q, h⟩ => hqi ⟨rfl, q, h⟩)
      rintro i d e hd ⟨q4, rfl⟩
      obtain ⟨rfl, hi⟩ := rng0_get hd
      refine ⟨_, rfl, ?_⟩
      have hi' : i < W.length := by omega
      have hz : W[i]? = some W[i] := List.getElem?_eq_getElem hi'
      have hm : W[i] ∈ W := List.getElem_mem hi'
      generalize W[i] = z at *
      have at1 : atI (W.map D.str) (i : Int) = some (.str z) := by rw [atI_cn, List.getElem?_map, hz]; rfl
      have ct2 : cutD (W.map D.str) none (some (i : Int)) = (W.take i).map D.str := by rw [cutD_hi, List.map_take]
      have g := inLf (ws z hm) (fun y hy => ws y (List.mem_of_mem_take hy)) (nd_take nd hz)
      rw [← ct2] at g
      unfold B_check_kinds_1
      generalize W.map D.str = WL at *
      generalize rq.map ktD = RQ at *
      clear hd hi hi' hz hm ct2 ws nd wl wl2 hws hc hik loop lp out at0 h hrg l1 l2 ri
      walk_at "evd"
      first | exact hbi ⟨_, rfl⟩ | done
    have out2 : ∀ (q2 : Option O) (fl : Fl) (e : Sl) (P : Prop), (fl = .next ∧ ∃ q4, e = [some (.fr (.lst (rq.map ktD))), some (.fr (.lst (rg.map .str))), q2, some (.lst (W.map D.str)), q4]) → (∀ q4, fl = .next → e = [some (.fr (.lst (rq.map ktD))), some (.fr (.lst (rg.map .str))), q2, some (.lst (W.map D.str)), q4] → P) → P := fun q2 fl e P ⟨h1, q, h2⟩ h => h q h1 h2
    unfold F_check_kinds G_check_kinds
    have lq : (rq.map ktD).length = rq.length := List.length_map ..
    generalize rq.map ktD = RQ at *
    clear loop hik h hrg ws nd hd hws
    have lW : (W.length : Int) = (rq.length : Int) := by rw [wl]
    clear wl wl2
    walk_at "evd"
    refine Ev.mono lp ?_ (fun _ _ (h : False) => h.elim)
    intro fl e zz
    refine out fl e _ zz fun q2 h1 h0 h2 => ?_
    subst h1 h2
    clear lp out zz
    rcases h0 with rfl | ⟨d, rfl⟩
    · have l2' := loop2 none
      have o2 := out2 none
      clear loop2 out2
      walk_at "evd"
      refine Ev.mono l2' ?_ (fun _ _ (h : False) => h.elim)
      intro fl e zz
      refine o2 fl e _ zz fun q4 h1 h2 => ?_
      subst h1 h2
      clear l2' o2 zz
      walk_at "evd"
      exact hqi ⟨rfl, rfl⟩
    · have l2' := loop2 (some (.fr d))
      have o2 := out2 (some (.fr d))
      clear loop2 out2
      walk_at "evd"
      refine Ev.mono l2' ?_ (fun _ _ (h : False) => h.elim)
      intro fl e zz
      refine o2 fl e _ zz fun q4 h1 h2 => ?_
      subst h1 h2
      clear l2' o2 zz
      walk_at "evd"
      exact hqi ⟨rfl, rfl⟩
  obtain ⟨o, os, h, rfl, rfl⟩ := H.get
  exact h
/-- the parts of a service -/
structure Sv where
  st : List Str
  rg : List Str
  rq : List (Str × List Str)
  rs : List Rl
def Sv.d (v : Sv) : D := .tup [.lst (v.st.map .str), .lst (v.rg.map .str), .lst (v.rq.map ktD), .lst (v.rs.map Rl.d)]
structure VOk (v : Sv) : Prop where
  st : NL [] v.st
  sl : 1 ≤ v.st.length ∧ v.st.length ≤ 6
  rg : NL [sSelf] v.rg
  rl : v.rg.length ≤ 3
  rq : KOk v.rg v.rq
  rs : ∀ r ∈ v.rs, ROk v.st v.rg v.rq r
  nl : v.rs.length ≤ 40
def svcN : List Str := [PySem.Str.ofString "_stations", PySem.Str.ofString "_registers", PySem.Str.ofString "_requests", PySem.Str.ofString "_rules"]
def Sv.o (v : Sv) : D := .ins (PySem.Str.ofString "Service") svcN [.lst (v.st.map .str), .lst (v.rg.map .str), .lst (v.rq.map ktD), .lst (v.rs.map Rl.d)]
theorem put1 (x : D) : putFn [] (PySem.Str.ofString "_stations") = [PySem.Str.ofString "_stations"] ∧ putFx [] [] (PySem.Str.ofString "_stations") x = [x] := ⟨rfl, rfl⟩
theorem put2 (a x : D) : putFn [PySem.Str.ofString "_stations"] (PySem.Str.ofString "_registers") = [PySem.Str.ofString "_stations", PySem.Str.ofString "_registers"] ∧ putFx [PySem.Str.ofString "_stations"] [a] (PySem.Str.ofString "_registers") x = [a, x] := by
  have h : ¬ PySem.Str.ofString "_stations" = PySem.Str.ofString "_registers" := by decide +kernel
  simp [putFn, putFx, h]
theorem put3 (a b x : D) : putFn [PySem.Str.ofString "_stations", PySem.Str.ofString "_registers"] (PySem.Str.ofString "_requests") = [PySem.Str.ofString "_stations", PySem.Str.ofString "_registers", PySem.Str.ofString "_requests"] ∧ putFx [PySem.Str.ofString "_stations", PySem.Str.ofString "_registers"] [a, b] (PySem.Str.ofString "_requests") x = [a, b, x] := by
  have h : ¬ PySem.Str.ofString "_stations" = PySem.Str.ofString "_requests" := by decide +kernel
  have h2 : ¬ PySem.Str.ofString "_registers" = PySem.Str.ofString "_requests" := by decide +kernel
  simp [putFn, putFx, h, h2]
theorem put4 (a b c x : D) : putFn [PySem.Str.ofString "_stations", PySem.Str.ofString "_registers", PySem.Str.ofString "_requests"] (PySem.Str.ofString "_rules") = [PySem.Str.ofString "_stations", PySem.Str.ofString "_registers", PySem.Str.ofString "_requests", PySem.Str.ofString "_rules"] ∧ putFx [PySem.Str.ofString "_stations", PySem.Str.ofString "_registers", PySem.Str.ofString "_requests"] [a, b, c] (PySem.Str.ofString "_rules") x = [a, b, c, x] := by
  have h : ¬ PySem.Str.ofString "_stations" = PySem.Str.ofString "_rules" := by decide +kernel
  have h2 : ¬ PySem.Str.ofString "_registers" = PySem.Str.ofString "_rules" := by decide +kernel
  have h3 : ¬ PySem.Str.ofString "_requests" = PySem.Str.ofString "_rules" := by decide +kernel
  simp [putFn, putFx, h, h2, h3]
theorem init_ok {v : Sv} (h : VOk v) : F_Service_m_init [.ins (PySem.Str.ofString "Service") [] [], .fr (.lst (v.st.map .str)), .fr (.lst (v.rg.map .str)), .fr (.lst (v.rq.map ktD)), .fr (.lst (v.rs.map Rl.d))] = some (.ok (.fr .non) [.ins (PySem.Str.ofString "Service") svcN [.lst (v.st.map .str), .lst (v.rg.map .str), .lst (v.rq.map ktD), .lst (v.rs.map Rl.d)], .fr (.lst (v.st.map .str)), .fr (.lst (v.rg.map .str)), .fr (.lst (v.rq.map ktD)), .fr (.lst (v.rs.map Rl.d))]) := by
  have H : FEv (F_Service_m_init [.ins (PySem.Str.ofString "Service") [] [], .fr (.lst (v.st.map .str)), .fr (.lst (v.rg.map .str)), .fr (.lst (v.rq.map ktD)), .fr (.lst (v.rs.map Rl.d))]) (@hq _ _ ⟨fun o os => o = .fr .non ∧ os = [.ins (PySem.Str.ofString "Service") svcN [.lst (v.st.map .str), .lst (v.rg.map .str), .lst (v.rq.map ktD), .lst (v.rs.map Rl.d)], .fr (.lst (v.st.map .str)), .fr (.lst (v.rg.map .str)), .fr (.lst (v.rq.map ktD)), .fr (.lst (v.rs.map Rl.d))]⟩) (fun _ _ => False) := by
    have l1 : (1 : Int) ≤ (v.st.length : Int) := by have := h.sl; omega
    have l2 : (v.st.length : Int) ≤ 6 := by have := h.sl; omega
    have l3 : ¬ (3 : Int) < (v.rg.length : Int) := by have := h.rl; omega
    have l4 : ¬ (40 : Int) < (v.rs.length : Int) := by have := h.nl; omega
    have c1 := check_names_ok h.st.nm h.st.nd
    have c2 := check_names_ok h.rg.nm h.rg.nd
    have hrg : ∀ z ∈ v.rg, LtrZ z := fun z hz => (h.rg.nm z hz).1
    have hst : ∀ z ∈ v.st, LtrZ z := fun z hz => (h.st.nm z hz).1
    have sf : gIn [.str (PySem.Str.ofString "self"), .lst (v.rg.map .str)] = some (bO false) := inLf (z := sSelf) (by unfold LtrZ; decide +kernel) hrg fun w => h.rg.nb _ w (List.mem_singleton.mpr rfl)
    have c3 := check_kinds_ok hrg h.rq
    have cr := fun r hr => check_rule_ok (h.rs r hr) h.rq.nd hst hrg (fun p hp => ⟨(h.rq.k p hp).1.1, by have := (h.rq.k p hp).2.2; omega, fun z hz => ((h.rq.k p hp).2.1.nm z hz).1⟩) (by have := h.rl; omega)
    have lst : (v.st.map D.str).length = v.st.length := List.length_map ..
    have lrg : (v.rg.map D.str).length = v.rg.length := List.length_map ..
    have lrs : (v.rs.map Rl.d).length = v.rs.length := List.length_map ..
    have loop : ∀ x0, Ev (forL (.n 5) B_Service_m_init_0 (v.rs.map Rl.d) [x0, some (.fr (.lst (v.st.map .str))), some (.fr (.lst (v.rg.map .str))), some (.fr (.lst (v.rq.map ktD))), some (.fr (.lst (v.rs.map Rl.d))), none]) (@hq _ _ ⟨fun fl e => fl = .next ∧ ∃ q, e = [x0, some (.fr (.lst (v.st.map .str))), some (.fr (.lst (v.rg.map .str))), some (.fr (.lst (v.rq.map ktD))), some (.fr (.lst (v.rs.map Rl.d))), q]⟩) (fun _ _ => False) := fun x0 => by
      refine Ev_forP (f := Rl.d) (fun done e => @Dn.hb _ ⟨fun e => ∃ q, e = [x0, some (.fr (.lst (v.st.map .str))), some (.fr (.lst (v.rg.map .str))), some (.fr (.lst (v.rq.map ktD))), some (.fr (.lst (v.rs.map Rl.d))), q]⟩ e) _ v.rs [] _ (hbi ⟨_, rfl⟩) ?_ (fun e ⟨q, h⟩ => hqi ⟨rfl, q, h⟩)
      rintro pre x post e he ⟨q, rfl⟩
      refine ⟨_, rfl, ?_⟩
      rw [List.nil_append] at he
      have hx := cr x (by rw [he]; simp)
      generalize x.d = xd at *
      generalize v.rs.map Rl.d = RS at *
      generalize v.rq.map ktD = RQ at *
      generalize v.rg.map D.str = RG at *
      generalize v.st.map D.str = ST at *
      unfold B_Service_m_init_0
      clear he cr c1 c2 c3 sf hrg hst h l1 l2 l3 l4 lst lrg lrs
      walk_at "evd"
      exact hbi ⟨_, rfl⟩
    have out : ∀ (x0 : Option O) (fl : Fl) (e : Sl) (P : Prop), (fl = .next ∧ ∃ q, e = [x0, some (.fr (.lst (v.st.map .str))), some (.fr (.lst (v.rg.map .str))), some (.fr (.lst (v.rq.map ktD))), some (.fr (.lst (v.rs.map Rl.d))), q]) → (∀ q, fl = .next → e = [x0, some (.fr (.lst (v.st.map .str))), some (.fr (.lst (v.rg.map .str))), some (.fr (.lst (v.rq.map ktD))), some (.fr (.lst (v.rs.map Rl.d))), q] → P) → P := fun x0 fl e P ⟨h1, q, h2⟩ h => h q h1 h2
    have lp := loop (some (.ins (PySem.Str.ofString "Service") [] []))
    have ot := out (some (.ins (PySem.Str.ofString "Service") [] []))
    unfold F_Service_m_init G_Service_m_init svcN
    generalize v.rs.map Rl.d = RS at *
    generalize v.rq.map ktD = RQ at *
    generalize v.rg.map D.str = RG at *
    generalize v.st.map D.str = ST at *
    clear loop out cr hrg hst h
    walk_at "evd"
    refine Ev.mono lp ?_ (fun _ _ (h : False) => h.elim)
    intro fl e zz
    refine ot fl e _ zz fun q h1 h2 => ?_
    subst h1 h2
    have s1 := @sSetF_a
    have p1 := (put1 .non).1
    have p2 := (put2 .non .non).1
    have p3 := (put3 .non .non .non).1
    have p4 := (put4 .non .non .non .non).1
    have r1 := fun x => (put1 x).2
    have r2 := fun a x => (put2 a x).2
    have r3 := fun a b x => (put3 a b x).2
    have r4 := fun a b c x => (put4 a b c x).2
    clear lp ot zz c1 c2 c3 sf l1 l2 l3 l4 lst lrg lrs
    walk_at "evd"
    first | exact hqi ⟨rfl, rfl⟩ | done
  obtain ⟨o, os, h, rfl, rfl⟩ := H.get
  exact h
theorem make_ok {v : Sv} (h : VOk v) : mkIns (PySem.Str.ofString "Service") F_Service_m_init [.fr (.lst (v.st.map .str)), .fr (.lst (v.rg.map .str)), .fr (.lst (v.rq.map ktD)), .fr (.lst (v.rs.map Rl.d))] = some (.ok (.fr v.o) [.fr (.lst (v.st.map .str)), .fr (.lst (v.rg.map .str)), .fr (.lst (v.rq.map ktD)), .fr (.lst (v.rs.map Rl.d))]) := mkIns_i (init_ok h)
theorem rules_ok (v : Sv) : prpV F_Service_p_rules (PySem.Str.ofString "Service") v.o = some (.lst (v.rs.map Rl.d)) := by
  refine prpV_i (os := [.fr v.o]) ?_
  have h : gFld (PySem.Str.ofString "Service") (PySem.Str.ofString "_rules") [v.o] = some (.fr (.lst (v.rs.map Rl.d))) := by
    refine gFld_e ?_
    have h : ¬ PySem.Str.ofString "_stations" = PySem.Str.ofString "_rules" := by decide +kernel
    have h2 : ¬ PySem.Str.ofString "_registers" = PySem.Str.ofString "_rules" := by decide +kernel
    have h3 : ¬ PySem.Str.ofString "_requests" = PySem.Str.ofString "_rules" := by decide +kernel
    unfold svcN
    simp [getF, h, h2, h3]
  show F_Service_p_rules [.fr v.o] = _
  unfold F_Service_p_rules G_Service_p_rules
  generalize v.o = s at *
  walk_at "evd"
theorem rqs_snoc {rg : List Str} {rqs : List (Str × List Str)} (h : ∀ p ∈ rqs, NL (rg ++ [sSelf]) p.2 ∧ p.2.length ≤ 3) {w : Str} {vs : List Str} (h1 : NL (rg ++ [sSelf]) vs) (h2 : vs.length ≤ 3) : ∀ p ∈ rqs ++ [(w, vs)], NL (rg ++ [sSelf]) p.2 ∧ p.2.length ≤ 3 := fun p hp => (List.mem_append.mp hp).elim (h p) fun e => by rw [List.mem_singleton.mp e]; exact ⟨h1, h2⟩
theorem kinds_loop (S : O) (rg : List Str) (q3 : Option O) (hrg : ∀ z ∈ rg, LtrZ z) (hrl : rg.length ≤ 3) (ws : List Str) (hwl : ws.length ≤ 10) (k : Dk) : Ev (forL (.n 5) B__law_service_0 (ws.map .str) [some (dk k), some S, some (.lst (rg.map .str)), q3, some (.lst []), none, none, none])
    (@hq _ _ ⟨fun fl e => fl = .next ∧ ∃ (k' : Dk) (rqs : List (Str × List Str)) (q5 : Option O), e = [some (dk k'), some S, some (.lst (rg.map .str)), q3, some (.lst (rqs.map ktD)), q5, none, none] ∧ rqs.map (·.1) = ws ∧ ∀ p ∈ rqs, NL (rg ++ [sSelf]) p.2 ∧ p.2.length ≤ 3⟩) (fun _ _ => False) := by
  refine Ev_forP (f := D.str) (fun done e => @Dn.hb _ ⟨fun e => done.length ≤ ws.length ∧ ∃ (k' : Dk) (rqs : List (Str × List Str)) (q5 : Option O), e = [some (dk k'), some S, some (.lst (rg.map .str)), q3, some (.lst (rqs.map ktD)), q5, none, none] ∧ rqs.map (·.1) = done ∧ ∀ p ∈ rqs, NL (rg ++ [sSelf]) p.2 ∧ p.2.length ≤ 3⟩ e) _ ws [] _ (hbi ⟨Nat.zero_le _, k, [], _, rfl, rfl, fun p hp => (List.not_mem_nil hp).elim⟩) ?_ (fun e ⟨_, h⟩ => hqi ⟨rfl, h⟩)
  rintro pre x post e he ⟨hlen, k', rqs, q5, rfl, hm, hp⟩
  rw [List.nil_append] at he
  refine ⟨_, rfl, ?_⟩
  have d4 := draw_ok k' 4 (by omega) (by omega)
  have b4 := draw_bd k' (b := 4) (by omega) (by omega)
  have hb : ∀ z ∈ rg ++ [sSelf], LtrZ z := fun z hz => (List.mem_append.mp hz).elim (hrg z) fun h => by rw [List.mem_singleton.mp h]; unfold LtrZ; decide +kernel
  obtain ⟨vs, k2, v1, v2, v3⟩ := dnames_nd (dN k' 4) (dV k' 4) b4.1 (rg ++ [sSelf]) hb (by rw [List.length_append, List.length_singleton]; omega)
  have em : (rg ++ [sSelf]).map D.str = rg.map D.str ++ [.str (PySem.Str.ofString "self")] := by rw [List.map_append]; rfl
  rw [em] at v1
  have lr : rg.length + 1 ≤ sizeLine := by rw [sizeLine_eq]; omega
  have lv : 1 + vs.length ≤ sizeLine := by rw [sizeLine_eq]; omega
  have lv2 : vs.length + 1 ≤ sizeLine := by omega
  have rl : rqs.length < sizeLine := by
    have := congrArg List.length hm
    rw [List.length_map] at this
    have : pre.length ≤ ws.length := hlen
    rw [sizeLine_eq]; omega
  have lvm : (vs.map D.str).length = vs.length := List.length_map ..
  have lrm : (rqs.map ktD).length = rqs.length := List.length_map ..
  have s2 := rqs_snoc hp (w := x) v2 (by omega : vs.length ≤ 3)
  have fin : ∀ q5, @Dn.hb Sl ⟨fun e => (pre ++ [x]).length ≤ ws.length ∧ ∃ (k' : Dk) (rqs : List (Str × List Str)) (q5 : Option O), e = [some (dk k'), some S, some (.lst (rg.map .str)), q3, some (.lst (rqs.map ktD)), q5, none, none] ∧ rqs.map (·.1) = pre ++ [x] ∧ ∀ p ∈ rqs, NL (rg ++ [sSelf]) p.2 ∧ p.2.length ≤ 3⟩ [some (dk k2), some S, some (.lst (rg.map .str)), q3, some (.lst (rqs.map ktD ++ [.tup (.str x :: vs.map .str)])), q5, none, none] := fun q5 => hbi ⟨by rw [he]; simp, k2, rqs ++ [(x, vs)], q5, by rw [List.map_append]; rfl, by rw [List.map_append, hm]; rfl, s2⟩
  have lv3 : 1 + (vs.map D.str).length ≤ sizeLine := by rw [lvm]; exact lv
  have lv4 : (vs.map D.str).length + 1 ≤ sizeLine := by rw [lvm]; exact lv2
  have rl2 : (rqs.map ktD).length < sizeLine := by rw [lrm]; exact rl
  have lrg : (rg.map D.str).length + 1 ≤ sizeLine := by rw [List.length_map]; exact lr
  clear lvm lrm rl lv lv2 lr
  generalize vs.map D.str = VS at *
  generalize rqs.map ktD = RQ at *
  generalize rg.map D.str = RG at *
  unfold B__law_service_0
  clear he hm hp hlen s2 v2 v3 b4 hb em hrg hrl
  walk_at "evd"
theorem rules_loop (S R Q : O) (q3 q5 : Option O) {st rg : List Str} {rq : List (Str × List Str)} (hS : S.d = .lst (st.map .str)) (hR : R.d = .lst (rg.map .str)) (hQ : Q.d = .lst (rq.map ktD)) (hs0 : 0 < st.length) (hsl : st.length ≤ 100) (hrl : rg.length ≤ 20) (hq0 : 0 < rq.length) (hql : rq.length ≤ 20) (hvl : ∀ p ∈ rq, p.2.length ≤ 20) (n : Int) (h0 : 0 ≤ n) (hn : n ≤ 5) (k : Dk) :
    Ev (forL (.n 7) B__law_service_1 (rngD 0 n) [some (dk k), some S, some R, q3, some Q, q5, some (.lst []), none])
    (@hq _ _ ⟨fun fl e => fl = .next ∧ ∃ (k' : Dk) (rs : List Rl) (q7 : Option O), e = [some (dk k'), some S, some R, q3, some Q, q5, some (.lst (rs.map Rl.d)), q7] ∧ (rs.length : Int) = n ∧ ∀ r ∈ rs, ROk st rg rq r⟩) (fun _ _ => False) := by
  refine Ev_forL (fun i e => @Dn.hb _ ⟨fun e => ∃ (k' : Dk) (rs : List Rl) (q7 : Option O), e = [some (dk k'), some S, some R, q3, some Q, q5, some (.lst (rs.map Rl.d)), q7] ∧ rs.length = i ∧ ∀ r ∈ rs, ROk st rg rq r⟩ e) _ (rngD 0 n) _ (hbi ⟨k, [], _, rfl, rfl, fun p hp => (List.not_mem_nil hp).elim⟩) ?_ ?_
  · rintro i d e hd ⟨k', rs, q7, rfl, hl, hr⟩
    obtain ⟨rfl, hi⟩ := rng0_get hd
    refine ⟨_, rfl, ?_⟩
    obtain ⟨r, k2, r1, r2⟩ := drule_ex S R Q (decide ((i : Int) = 0)) st rg rq hS hR hQ hs0 hsl hrl hq0 hql hvl k'
    have rl : rs.length < sizeLine := by rw [sizeLine_eq]; omega
    have rl2 : (rs.map Rl.d).length < sizeLine := by rw [List.length_map]; exact rl
    have fin : ∀ q7, @Dn.hb Sl ⟨fun e => ∃ (k' : Dk) (rs : List Rl) (q7 : Option O), e = [some (dk k'), some S, some R, q3, some Q, q5, some (.lst (rs.map Rl.d)), q7] ∧ rs.length = i + 1 ∧ ∀ r ∈ rs, ROk st rg rq r⟩ [some (dk k2), some S, some R, q3, some Q, q5, some (.lst (rs.map Rl.d ++ [r.d])), q7] := fun q7 => hbi ⟨k2, rs ++ [r], q7, by rw [List.map_append]; rfl, by rw [List.length_append, hl]; rfl, fun x hx => (List.mem_append.mp hx).elim (hr x) fun h => by rw [List.mem_singleton.mp h]; exact r2⟩
    have e0 : gEq [.int (i : Int), .int 0] = some (bO (decide ((i : Int) = 0))) := rfl
    generalize rs.map Rl.d = RS at *
    generalize r.d = rd at *
    generalize hb : decide ((i : Int) = 0) = b at *
    generalize (i : Int) = I at *
    unfold B__law_service_1
    clear hd hr hl r2 rl hi hb hS hR hQ hs0 hsl hrl hq0 hql hvl h0 hn
    walk_at "evd"
  · rintro e ⟨k', rs, q7, rfl, hl, hr⟩
    rw [rngD_len] at hl
    exact hqi ⟨rfl, k', rs, q7, rfl, by omega, hr⟩
theorem dservice_ex (k : Dk) : ∃ (v : Sv) (k' : Dk), F__law_service [dk k] = some (.ok (.fr v.d) [dk k']) ∧ VOk v := by
  have H : FEv (F__law_service [dk k]) (@hq _ _ ⟨fun o os => ∃ (v : Sv) (k' : Dk), o = .fr v.d ∧ os = [dk k'] ∧ VOk v⟩) (fun _ _ => False) := by
    have d3 := draw_ok k 3 (by omega) (by omega)
    have b3 := draw_bd k (b := 3) (by omega) (by omega)
    obtain ⟨st, k1, s1, s2, s3⟩ := dnames_nd (dN k 3) (1 + dV k 3) (by omega) [] (fun z h => (List.not_mem_nil h).elim) (by simp; omega)
    have d4 := draw_ok k1 4 (by omega) (by omega)
    have b4 := draw_bd k1 (b := 4) (by omega) (by omega)
    obtain ⟨rg, k2, r1, r2, r3⟩ := dnames_nd (dN k1 4) (dV k1 4) b4.1 [sSelf] (fun z h => by rw [List.mem_singleton.mp h]; unfold LtrZ; decide +kernel) (by simp; omega)
    have d3b := draw_ok k2 3 (by omega) (by omega)
    have b3b := draw_bd k2 (b := 3) (by omega) (by omega)
    obtain ⟨ws, k3, w1, w2, w3⟩ := dnames_nd (dN k2 3) (dV k2 3) b3b.1 [sNew] (fun z h => by rw [List.mem_singleton.mp h]; unfold LtrZ; decide +kernel) (by simp; omega)
    have s1' : F__law_names [dk (dN k 3), .fr (.int (1 + dV k 3)), .fr (.lst [])] = some (.ok (.lst (st.map .str)) [dk k1, .fr (.int (1 + dV k 3)), .fr (.lst [])]) := s1
    have r1' : F__law_names [dk (dN k1 4), .fr (.int (dV k1 4)), .fr (.lst [.str (PySem.Str.ofString "self")])] = some (.ok (.lst (rg.map .str)) [dk k2, .fr (.int (dV k1 4)), .fr (.lst [.str (PySem.Str.ofString "self")])]) := r1
    have w1' : F__law_names [dk (dN k2 3), .fr (.int (dV k2 3)), .fr (.lst [.str (PySem.Str.ofString "new")])] = some (.ok (.lst (ws.map .str)) [dk k3, .fr (.int (dV k2 3)), .fr (.lst [.str (PySem.Str.ofString "new")])]) := w1
    clear s1 r1 w1
    have hrg : ∀ z ∈ rg, LtrZ z := fun z hz => (r2.nm z hz).1
    have lw : 1 + ws.length ≤ sizeLine := by rw [sizeLine_eq]; omega
    have lw3 : 1 + (ws.map D.str).length ≤ sizeLine := by rw [List.length_map]; exact lw
    have kl := fun q3 => kinds_loop (.lst (st.map .str)) rg q3 hrg (by omega) (sNew :: ws) (by rw [List.length_cons]; omega) k3
    have em : (sNew :: ws).map D.str = .str (PySem.Str.ofString "new") :: ws.map D.str := rfl
    rw [em] at kl
    have kl1 := kl (some (.fr (.lst (.str (PySem.Str.ofString "new") :: ws.map D.str))))
    have out1 : ∀ (fl : Fl) (e : Sl) (P : Prop), (fl = .next ∧ ∃ (k' : Dk) (rqs : List (Str × List Str)) (q5 : Option O), e = [some (dk k'), some (.lst (st.map .str)), some (.lst (rg.map .str)), some (.fr (.lst (.str (PySem.Str.ofString "new") :: ws.map D.str))), some (.lst (rqs.map ktD)), q5, none, none] ∧ rqs.map (·.1) = sNew :: ws ∧ ∀ p ∈ rqs, NL (rg ++ [sSelf]) p.2 ∧ p.2.length ≤ 3) →
        (∀ (k' : Dk) (rqs : List (Str × List Str)) (q5 : Option O), fl = .next → e = [some (dk k'), some (.lst (st.map .str)), some (.lst (rg.map .str)), some (.fr (.lst (.str (PySem.Str.ofString "new") :: ws.map D.str))), some (.lst (rqs.map ktD)), q5, none, none] → rqs.map (·.1) = sNew :: ws → (∀ p ∈ rqs, NL (rg ++ [sSelf]) p.2 ∧ p.2.length ≤ 3) → P) → P := fun fl e P ⟨h1, k', rqs, q5, h2, h3, h4⟩ h => h k' rqs q5 h1 h2 h3 h4
    have fin : ∀ (rqs : List (Str × List Str)) (rs : List Rl) (k' : Dk) (n : Int), rqs.map (·.1) = sNew :: ws → (∀ p ∈ rqs, NL (rg ++ [sSelf]) p.2 ∧ p.2.length ≤ 3) → (rs.length : Int) ≤ 5 → (∀ r ∈ rs, ROk st rg rqs r) → @hq O (List O) ⟨fun o os => ∃ (v : Sv) (k' : Dk), o = .fr v.d ∧ os = [dk k'] ∧ VOk v⟩ (.fr (.tup [.lst (st.map .str), .lst (rg.map .str), .lst (rqs.map ktD), .lst (rs.map Rl.d)])) [dk k'] := fun rqs rs k' n h1 h2 h3 h4 => hqi ⟨⟨st, rg, rqs, rs⟩, k', rfl, rfl, ⟨s2, by show 1 ≤ st.length ∧ st.length ≤ 6; omega, r2, by show rg.length ≤ 3; omega, ⟨by
        have := congrArg List.length h1
        rw [List.length_map, List.length_cons] at this
        show 1 ≤ rqs.length ∧ rqs.length ≤ 6
        omega, fun p hp => ⟨by
        have : p.1 ∈ sNew :: ws := by rw [← h1]; exact List.mem_map.mpr ⟨p, hp, rfl⟩
        rcases List.mem_cons.mp this with e | e
        · rw [e]; exact ⟨by unfold LtrZ; decide +kernel, by decide +kernel, by decide +kernel⟩
        · exact w2.nm _ e, (h2 p hp).1, (h2 p hp).2⟩, by
        show (rqs.map (·.1)).Nodup
        rw [h1]
        exact List.nodup_cons.mpr ⟨fun h => w2.nb _ h (List.mem_singleton.mpr rfl), w2.nd⟩, by
        show (rqs.map (·.1)).head? = some sNew
        rw [h1]; rfl⟩, h4, by show rs.length ≤ 40; omega⟩⟩
    unfold F__law_service G__law_service
    clear kl em r2 s2 w2 hrg
    walk_at "evd"
    refine Ev.mono kl1 ?_ (fun _ _ (h : False) => h.elim)
    intro fl e zz
    refine out1 fl e _ zz fun k' rqs q5 h1 h2 h3 h4 => ?_
    subst h1 h2
    have hm := congrArg List.length h3
    rw [List.length_map, List.length_cons] at hm
    have d6 := draw_ok k' 6 (by omega) (by omega)
    have b6 := draw_bd k' (b := 6) (by omega) (by omega)
    have rl := rules_loop (.lst (st.map .str)) (.lst (rg.map .str)) (.lst (rqs.map ktD)) (some (.fr (.lst (.str (PySem.Str.ofString "new") :: ws.map D.str)))) q5 (st := st) (rg := rg) (rq := rqs) rfl rfl rfl (by omega) (by omega) (by omega) (by omega) (by omega) (fun p hp => by have := (h4 p hp).2; omega) (dV k' 6) b6.1 (by omega) (dN k' 6)
    have ri : inR (dV k' 6) = true := inR_pos b6.1 (by omega)
    have out2 : ∀ (fl : Fl) (e : Sl) (P : Prop), (fl = .next ∧ ∃ (k'' : Dk) (rs : List Rl) (q7 : Option O), e = [some (dk k''), some (.lst (st.map .str)), some (.lst (rg.map .str)), some (.fr (.lst (.str (PySem.Str.ofString "new") :: ws.map D.str))), some (.lst (rqs.map ktD)), q5, some (.lst (rs.map Rl.d)), q7] ∧ (rs.length : Int) = dV k' 6 ∧ ∀ r ∈ rs, ROk st rg rqs r) →
        (∀ (k'' : Dk) (rs : List Rl) (q7 : Option O), fl = .next → e = [some (dk k''), some (.lst (st.map .str)), some (.lst (rg.map .str)), some (.fr (.lst (.str (PySem.Str.ofString "new") :: ws.map D.str))), some (.lst (rqs.map ktD)), q5, some (.lst (rs.map Rl.d)), q7] → (rs.length : Int) = dV k' 6 → (∀ r ∈ rs, ROk st rg rqs r) → P) → P := fun fl e P ⟨h1, k', rs, q7, h2, h3, h4⟩ h => h k' rs q7 h1 h2 h3 h4
    have fin2 := fun rs k'' h5 h6 => fin rqs rs k'' 0 h3 h4 h5 h6
    clear fin out1 zz kl1 h3 h4 hm s1' r1' w1' d3 d4 d3b lw lw3
    walk_at "evd"
    refine Ev.mono rl ?_ (fun _ _ (h : False) => h.elim)
    intro fl e zz
    refine out2 fl e _ zz fun k'' rs q7 h1 h2 h5 h6 => ?_
    subst h1 h2
    have f3 := fin2 rs k'' (by omega) h6
    clear fin2 out2 zz rl h6 h5
    generalize st.map D.str = ST at *
    generalize rg.map D.str = RG at *
    generalize rqs.map ktD = RQ at *
    generalize rs.map Rl.d = RS at *
    walk_at "evd"
  obtain ⟨o, os, h, v, k', rfl, rfl, h1⟩ := H.get
  exact ⟨v, k', h, h1⟩
/-- a number, written -/
def nz (i : Int) : Str := (toString i : String)
theorem gStr_n {n : Nat} (h : n ≤ 1000) : gStr1 [.int (n : Int)] = some (sO (nz n)) := by
  have : ((n : Int).natAbs).log2 < 1920 := by
    have h1 : (n : Int).natAbs = n := Int.natAbs_natCast n
    rw [h1]
    by_cases h0 : n = 0
    · subst h0; decide
    · exact (Nat.log2_lt h0).mpr (Nat.lt_of_le_of_lt h (Nat.lt_of_lt_of_le (by decide : 1000 < 2 ^ 10) (Nat.pow_le_pow_right (by decide) (by decide))))
  exact gStr1_i this
def eqz (p : Str) : Str := PySem.Str.ofString "=" ++ p
mutual
/-- the words of a condition -/
def Cn.cw : Cn → List Str
  | .at0 w => [wAt w]
  | .mat n p => [sMat, n, eqz p]
  | .sam a b => [sSam, a, b]
  | .emp a => [sEmp, a]
  | .nt c => sNot :: Cn.cw c
  | .nd w cs => wNd w :: nz (cs.length : Int) :: Cn.cws cs
def Cn.cws : List Cn → List Str
  | [] => []
  | c :: cs => Cn.cw c ++ Cn.cws cs
end
theorem Cn.cws_app : ∀ a b : List Cn, Cn.cws (a ++ b) = Cn.cws a ++ Cn.cws b
  | [], b => by rw [List.nil_append, Cn.cws, List.nil_append]
  | x :: a, b => by rw [List.cons_append, Cn.cws, Cn.cws, Cn.cws_app a b, List.append_assoc]
mutual
theorem cw_len : ∀ c : Cn, c.cw.length ≤ 3 * c.size
  | .at0 _ => by simp [Cn.cw, Cn.size]
  | .mat _ p => by simp [Cn.cw, Cn.size]
  | .sam _ _ => by simp [Cn.cw, Cn.size]
  | .emp _ => by simp [Cn.cw, Cn.size]
  | .nt c => by have := cw_len c; simp [Cn.cw, Cn.size]; omega
  | .nd _ cs => by have := cws_len cs; simp [Cn.cw, Cn.size]; omega
theorem cws_len : ∀ cs : List Cn, (Cn.cws cs).length ≤ 3 * Cn.sizes cs
  | [] => by simp [Cn.cws]
  | c :: cs => by have := cw_len c; have := cws_len cs; simp [Cn.cws, Cn.sizes]; omega
end
theorem cws_pre {cs pre post : List Cn} {x : Cn} (h : cs = pre ++ x :: post) (hs : Cn.sizes cs ≤ 1000) : (Cn.cws pre).length + x.cw.length ≤ 3000 ∧ x.size ≤ 1000 := by
  have e : Cn.sizes cs = Cn.sizes pre + (x.size + Cn.sizes post) := by rw [h, Cn.sizes_app, Cn.sizes]
  have a := cws_len pre
  have b := cw_len x
  omega
/-- format_condition's loop -/
theorem fc_loop (F : Fn) (q0 q1 : Option O) (cs : List Cn) (P : List Str) (hP : P.length ≤ 2) (hs : Cn.sizes cs ≤ 1000) (hF : ∀ p ∈ cs, F [.fr p.d] = some (.ok (.lst (p.cw.map .str)) [.fr p.d])) :
    Ev (forL (.n 3) (B_format_condition_0 F) (cs.map Cn.d) [q0, q1, some (.lst (P.map .str)), none]) (@hq _ _ ⟨fun fl e => fl = .next ∧ ∃ q3, e = [q0, q1, some (.lst ((P ++ Cn.cws cs).map .str)), q3]⟩) (fun _ _ => False) := by
  refine Ev_forP (f := Cn.d) (fun done e => @Dn.hb _ ⟨fun e => ∃ q3, e = [q0, q1, some (.lst ((P ++ Cn.cws done).map .str)), q3]⟩ e) _ cs [] _ (hbi ⟨_, by rw [Cn.cws, List.append_nil]⟩) ?_ (fun e ⟨q, h⟩ => hqi ⟨rfl, q, h⟩)
  rintro pre x post e he ⟨q3, rfl⟩
  rw [List.nil_append] at he
  refine ⟨_, rfl, ?_⟩
  have hx := hF x (by rw [he]; simp)
  have hl := cws_pre he hs
  have le : ((P ++ Cn.cws pre).map D.str).length + (x.cw.map D.str).length ≤ sizeLine := by rw [List.length_map, List.length_map, List.length_append, sizeLine_eq]; omega
  have ea : (P ++ Cn.cws pre).map D.str ++ x.cw.map D.str = (P ++ Cn.cws (pre ++ [x])).map D.str := by rw [Cn.cws_app, Cn.cws, Cn.cws, List.append_nil, ← List.map_append, List.append_assoc]
  have fin : ∀ q3 : Option O, @Dn.hb Sl ⟨fun e => ∃ q3, e = [q0, q1, some (.lst ((P ++ Cn.cws (pre ++ [x])).map .str)), q3]⟩ [q0, q1, some (.lst ((P ++ Cn.cws pre).map D.str ++ x.cw.map D.str)), q3] := fun q3 => hbi ⟨q3, by rw [ea]⟩
  generalize (P ++ Cn.cws pre).map D.str = A at *
  generalize x.cw.map D.str = B at *
  unfold B_format_condition_0
  clear he hF hl ea hP hs
  walk_at "evd"
theorem fc_ok (N R : List Str) (hN : ∀ z ∈ N, LtrZ z) : ∀ (n m : Nat) (c : Cn), COk N R m c → m ≤ n → c.size ≤ 1000 → F_format_condition n [.fr c.d] = some (.ok (.lst (c.cw.map .str)) [.fr c.d])
  | 0, m, c, h, hm, _ => by obtain ⟨j, rfl, _⟩ := h.dp; omega
  | n + 1, m, c, h, hm, hs => by
    obtain ⟨j, rfl, hp⟩ := h.dp
    have ih := fc_ok N R hN n j
    have hsz := Cn.size_parts c
    have hF : ∀ p ∈ c.parts, F_format_condition n [.fr p.d] = some (.ok (.lst (p.cw.map .str)) [.fr p.d]) := fun p hpp => by
      have hle : ∀ (cs : List Cn) (p : Cn), p ∈ cs → p.size ≤ Cn.sizes cs := by
        intro cs
        induction cs with
        | nil => intro p hp; exact (List.not_mem_nil hp).elim
        | cons x xs ih =>
          intro p hp
          rw [Cn.sizes]
          rcases List.mem_cons.mp hp with rfl | hp
          · omega
          · have := ih p hp; omega
      have := hle _ p hpp
      exact ih p (hp p hpp) (by omega) (by omega)
    have i2 : ∀ z : Str, (∀ c ∈ zl z, c < 1114112) → gIn [.str z, .tup [.str (PySem.Str.ofString "same"), .str (PySem.Str.ofString "empty")]] = some (bO (decide (z ∈ [sSam, sEmp]))) := fun z hz => str_inT (zs := [sSam, sEmp]) hz (by decide +kernel)
    have i3 : ∀ z : Str, (∀ c ∈ zl z, c < 1114112) → gIn [.str z, .tup [.str (PySem.Str.ofString "and"), .str (PySem.Str.ofString "or")]] = some (bO (decide (z ∈ [sAnd, sOr]))) := fun z hz => str_inT (zs := [sAnd, sOr]) hz (by decide +kernel)
    have H : FEv (F_format_condition (n + 1) [.fr c.d]) (@hq _ _ ⟨fun o os => o = .lst (c.cw.map .str) ∧ os = [.fr c.d]⟩) (fun _ _ => False) := by
      clear ih
      show FEv (mkF 4 [0] (G_format_condition (F_format_condition n)) [.fr c.d]) _ _
      cases c with
      | mat a p =>
        have e : (Cn.mat a p).cw = [PySem.Str.ofString "matches", a, eqz p] := by rw [Cn.cw]
        have pz : PatZ p := by cases h with | mat _ _ _ _ hq => exact hq
        have lz : (PySem.Str.ofString "=").length + p.length ≤ sizeLine := sz2_of (by have h1 := pz.2.1; have h2 : (PySem.Str.ofString "=").length = 1 := (by decide +kernel); omega)
        have ez : eqz p = PySem.Str.ofString "=" ++ p := rfl
        rw [e, Cn.d, ez]
        rw [show sMat = PySem.Str.ofString "matches" from rfl]
        unfold G_format_condition
        clear h hp hF hN i2 i3 hsz hs pz e ez
        walk_at "evd"
        first | exact hqi ⟨rfl, rfl⟩ | done
      | sam a b =>
        have e : (Cn.sam a b).cw = [PySem.Str.ofString "same", a, b] := by rw [Cn.cw]
        rw [e, Cn.d]
        rw [show sSam = PySem.Str.ofString "same" from rfl]
        have n1 : ¬ PySem.Str.ofString "same" = PySem.Str.ofString "matches" := by decide +kernel
        have g2 := i2 (PySem.Str.ofString "same") (by decide +kernel)
        rw [show decide (PySem.Str.ofString "same" ∈ [sSam, sEmp]) = true by decide +kernel] at g2
        have g3 := i3 (PySem.Str.ofString "same") (by decide +kernel)
        rw [show decide (PySem.Str.ofString "same" ∈ [sAnd, sOr]) = false by decide +kernel] at g3
        unfold G_format_condition
        clear h hp hF hN i2 i3 hsz hs e
        walk_at "evd"
        first | exact hqi ⟨rfl, rfl⟩ | done
      | emp a =>
        have e : (Cn.emp a).cw = [PySem.Str.ofString "empty", a] := by rw [Cn.cw]
        rw [e, Cn.d]
        rw [show sEmp = PySem.Str.ofString "empty" from rfl]
        have n1 : ¬ PySem.Str.ofString "empty" = PySem.Str.ofString "matches" := by decide +kernel
        have g2 := i2 (PySem.Str.ofString "empty") (by decide +kernel)
        rw [show decide (PySem.Str.ofString "empty" ∈ [sSam, sEmp]) = true by decide +kernel] at g2
        have g3 := i3 (PySem.Str.ofString "empty") (by decide +kernel)
        rw [show decide (PySem.Str.ofString "empty" ∈ [sAnd, sOr]) = false by decide +kernel] at g3
        unfold G_format_condition
        clear h hp hF hN i2 i3 hsz hs e
        walk_at "evd"
        first | exact hqi ⟨rfl, rfl⟩ | done
      | at0 w =>
        have go : ∀ z : Str, wAt w = z → (¬ z = PySem.Str.ofString "matches") → gIn [.str z, .tup [.str (PySem.Str.ofString "same"), .str (PySem.Str.ofString "empty")]] = some (bO false) → gIn [.str z, .tup [.str (PySem.Str.ofString "and"), .str (PySem.Str.ofString "or")]] = some (bO false) → FEv (mkF 4 [0] (G_format_condition (F_format_condition n)) [.fr (.tup [.str z])]) (@hq _ _ ⟨fun o os => o = .lst [.str z] ∧ os = [.fr (.tup [.str z])]⟩) (fun _ _ => False) := fun z _ n1 g2 g3 => by
          have lp := fun q0 q1 => fc_loop (F_format_condition n) q0 q1 [] [z] (by simp) (by simp [Cn.sizes]) (fun p hp => (List.not_mem_nil hp).elim)
          have e1 : ([z] ++ Cn.cws []).map D.str = [.str z] := by rw [Cn.cws]; rfl
          rw [e1] at lp
          have lp' := lp (some (.fr (.tup [.str z]))) (some (.fr (.str z)))
          have ct : cutD [D.str z] (some 1) none = [] := by rw [cutD_1]; rfl
          unfold G_format_condition
          clear h hp hF hN i2 i3 hsz hs lp e1
          walk_at "evd"
          refine Ev.mono lp' ?_ (fun _ _ (h : False) => h.elim)
          intro fl e zz
          have z' : fl = .next ∧ ∃ q3, e = [some (.fr (.tup [.str z])), some (.fr (.str z)), some (.lst [.str z]), q3] := zz
          obtain ⟨h1, q3, h2⟩ := z'
          subst h1 h2
          clear lp' zz
          walk_at "evd"
          first | exact hqi ⟨rfl, rfl⟩ | done
        have e : (Cn.at0 w).cw = [wAt w] := by rw [Cn.cw]
        rw [e, Cn.d]
        have wo := (Cn.at0 w).w_ok
        have w1 : (Cn.at0 w).w = wAt w := rfl
        rw [w1] at wo
        exact go (wAt w) rfl (by cases w <;> decide +kernel) (by rw [i2 _ wo, show decide (wAt w ∈ [sSam, sEmp]) = false by cases w <;> decide +kernel]) (by rw [i3 _ wo, show decide (wAt w ∈ [sAnd, sOr]) = false by cases w <;> decide +kernel])
      | nt c =>
        have e : (Cn.nt c).cw = [PySem.Str.ofString "not"] ++ Cn.cws [c] := by rw [Cn.cw, Cn.cws, Cn.cws, List.append_nil]; rfl
        have lp := fc_loop (F_format_condition n) (some (.fr (.tup [.str (PySem.Str.ofString "not"), c.d]))) (some (.fr (.str (PySem.Str.ofString "not")))) [c] [PySem.Str.ofString "not"] (by simp) (by rw [Cn.size] at hs; simp [Cn.sizes]; omega) (fun p hpp => hF p hpp)
        have ct : cutD [D.str (PySem.Str.ofString "not"), c.d] (some 1) none = [c.d] := by rw [cutD_1]; rfl
        rw [e, Cn.d]
        rw [show sNot = PySem.Str.ofString "not" from rfl]
        have lp' : Ev (forL (.n 3) (B_format_condition_0 (F_format_condition n)) [c.d] [some (.fr (.tup [.str (PySem.Str.ofString "not"), c.d])), some (.fr (.str (PySem.Str.ofString "not"))), some (.lst [.str (PySem.Str.ofString "not")]), none]) _ _ := lp
        have out : ∀ (fl : Fl) (e : Sl) (P : Prop), (fl = .next ∧ ∃ q3, e = [some (.fr (.tup [.str (PySem.Str.ofString "not"), c.d])), some (.fr (.str (PySem.Str.ofString "not"))), some (.lst (([PySem.Str.ofString "not"] ++ Cn.cws [c]).map .str)), q3]) → (∀ q3, fl = .next → e = [some (.fr (.tup [.str (PySem.Str.ofString "not"), c.d])), some (.fr (.str (PySem.Str.ofString "not"))), some (.lst (([PySem.Str.ofString "not"] ++ Cn.cws [c]).map .str)), q3] → P) → P := fun fl e P ⟨h1, q, h2⟩ h => h q h1 h2
        clear lp
        generalize ([PySem.Str.ofString "not"] ++ Cn.cws [c]).map D.str = W at *
        generalize c.d = CD at *
        have n1 : ¬ PySem.Str.ofString "not" = PySem.Str.ofString "matches" := by decide +kernel
        have g2 := i2 (PySem.Str.ofString "not") (by decide +kernel)
        rw [show decide (PySem.Str.ofString "not" ∈ [sSam, sEmp]) = false by decide +kernel] at g2
        have g3 := i3 (PySem.Str.ofString "not") (by decide +kernel)
        rw [show decide (PySem.Str.ofString "not" ∈ [sAnd, sOr]) = false by decide +kernel] at g3
        unfold G_format_condition
        clear h hp hF hN i2 i3 hsz hs e
        walk_at "evd"
        refine Ev.mono lp' ?_ (fun _ _ (h : False) => h.elim)
        intro fl e zz
        refine out fl e _ zz fun q3 h1 h2 => ?_
        subst h1 h2
        clear lp' out zz
        walk_at "evd"
        first | exact hqi ⟨rfl, rfl⟩ | done
      | nd w cs =>
        have go : ∀ z : Str, (¬ z = PySem.Str.ofString "matches") → gIn [.str z, .tup [.str (PySem.Str.ofString "same"), .str (PySem.Str.ofString "empty")]] = some (bO false) → gIn [.str z, .tup [.str (PySem.Str.ofString "and"), .str (PySem.Str.ofString "or")]] = some (bO true) → FEv (mkF 4 [0] (G_format_condition (F_format_condition n)) [.fr (.tup (.str z :: cs.map Cn.d))]) (@hq _ _ ⟨fun o os => o = .lst (([z, nz (cs.length : Int)] ++ Cn.cws cs).map .str) ∧ os = [.fr (.tup (.str z :: cs.map Cn.d))]⟩) (fun _ _ => False) := fun z n1 g2 g3 => by
          have hsl := szs_len cs
          have hs1 : Cn.sizes cs ≤ 1000 := by rw [Cn.size] at hs; omega
          have gs := gStr_n (n := cs.length) (by omega)
          have lp := fc_loop (F_format_condition n) (some (.fr (.tup (.str z :: cs.map Cn.d)))) (some (.fr (.str z))) cs [z, nz (cs.length : Int)] (by simp) hs1 hF
          have ct : cutD (.str z :: cs.map Cn.d) (some 1) none = cs.map Cn.d := by rw [cutD_1]; rfl
          have lp' : Ev (forL (.n 3) (B_format_condition_0 (F_format_condition n)) (cs.map Cn.d) [some (.fr (.tup (.str z :: cs.map Cn.d))), some (.fr (.str z)), some (.lst [.str z, .str (nz (cs.length : Int))]), none]) _ _ := lp
          have out : ∀ (fl : Fl) (e : Sl) (P : Prop), (fl = .next ∧ ∃ q3, e = [some (.fr (.tup (.str z :: cs.map Cn.d))), some (.fr (.str z)), some (.lst (([z, nz (cs.length : Int)] ++ Cn.cws cs).map .str)), q3]) → (∀ q3, fl = .next → e = [some (.fr (.tup (.str z :: cs.map Cn.d))), some (.fr (.str z)), some (.lst (([z, nz (cs.length : Int)] ++ Cn.cws cs).map .str)), q3] → P) → P := fun fl e P ⟨h1, q, h2⟩ h => h q h1 h2
          clear lp
          have lm : ((cs.map Cn.d).length : Int) = (cs.length : Int) := by rw [List.length_map]
          have l1 : 1 < sizeLine := by rw [sizeLine_eq]; omega
          generalize ([z, nz (cs.length : Int)] ++ Cn.cws cs).map D.str = W at *
          generalize nz (cs.length : Int) = NZ at *
          generalize (cs.length : Int) = CL at *
          generalize cs.map Cn.d = CD at *
          unfold G_format_condition
          clear h hp hF hN i2 i3 hsz hs hs1 hsl
          walk_at "evd"
          refine Ev.mono lp' ?_ (fun _ _ (h : False) => h.elim)
          intro fl e zz
          refine out fl e _ zz fun q3 h1 h2 => ?_
          subst h1 h2
          clear lp' out zz
          walk_at "evd"
          first | exact hqi ⟨rfl, rfl⟩ | done
        have e : (Cn.nd w cs).cw = [wNd w, nz (cs.length : Int)] ++ Cn.cws cs := by rw [Cn.cw]; rfl
        rw [e, Cn.d, Cn.ds_map]
        have wo := (Cn.nd w cs).w_ok
        have w1 : (Cn.nd w cs).w = wNd w := rfl
        rw [w1] at wo
        exact go (wNd w) (by cases w <;> decide +kernel) (by rw [i2 _ wo, show decide (wNd w ∈ [sSam, sEmp]) = false by cases w <;> decide +kernel]) (by rw [i3 _ wo, show decide (wNd w ∈ [sAnd, sOr]) = true by cases w <;> decide +kernel])
    obtain ⟨o, os, h, rfl, rfl⟩ := H.get
    exact h
/-- the law's loop over the parts -/
theorem lw_loop (F : Fn) (q0 : Option O) (cs : List Cn) (P : List Str) (hP : P.length ≤ 2) (hs : Cn.sizes cs ≤ 1000) (hF : ∀ p ∈ cs, F [.fr p.d] = some (.ok (.lst (p.cw.map .str)) [.fr p.d])) :
    Ev (forL (.n 2) (B__law_words_of_condition_0 F) (cs.map Cn.d) [q0, some (.lst (P.map .str)), none]) (@hq _ _ ⟨fun fl e => fl = .next ∧ ∃ q2, e = [q0, some (.lst ((P ++ Cn.cws cs).map .str)), q2]⟩) (fun _ _ => False) := by
  refine Ev_forP (f := Cn.d) (fun done e => @Dn.hb _ ⟨fun e => ∃ q2, e = [q0, some (.lst ((P ++ Cn.cws done).map .str)), q2]⟩ e) _ cs [] _ (hbi ⟨_, by rw [Cn.cws, List.append_nil]⟩) ?_ (fun e ⟨q, h⟩ => hqi ⟨rfl, q, h⟩)
  rintro pre x post e he ⟨q3, rfl⟩
  rw [List.nil_append] at he
  refine ⟨_, rfl, ?_⟩
  have hx := hF x (by rw [he]; simp)
  have hl := cws_pre he hs
  have le : ((P ++ Cn.cws pre).map D.str).length + (x.cw.map D.str).length ≤ sizeLine := by rw [List.length_map, List.length_map, List.length_append, sizeLine_eq]; omega
  have ea : (P ++ Cn.cws pre).map D.str ++ x.cw.map D.str = (P ++ Cn.cws (pre ++ [x])).map D.str := by rw [Cn.cws_app, Cn.cws, Cn.cws, List.append_nil, ← List.map_append, List.append_assoc]
  have fin : ∀ q3 : Option O, @Dn.hb Sl ⟨fun e => ∃ q2, e = [q0, some (.lst ((P ++ Cn.cws (pre ++ [x])).map .str)), q2]⟩ [q0, some (.lst ((P ++ Cn.cws pre).map D.str ++ x.cw.map D.str)), q3] := fun q3 => hbi ⟨q3, by rw [ea]⟩
  generalize (P ++ Cn.cws pre).map D.str = A at *
  generalize x.cw.map D.str = B at *
  unfold B__law_words_of_condition_0
  clear he hF hl ea hP hs
  walk_at "evd"
theorem lw_ok (N R : List Str) : ∀ (n m : Nat) (c : Cn), COk N R m c → m ≤ n → c.size ≤ 1000 → F__law_words_of_condition n [.fr c.d] = some (.ok (.lst (c.cw.map .str)) [.fr c.d])
  | 0, m, c, h, hm, _ => by obtain ⟨j, rfl, _⟩ := h.dp; omega
  | n + 1, m, c, h, hm, hs => by
    obtain ⟨j, rfl, hp⟩ := h.dp
    have ih := lw_ok N R n j
    have hsz := Cn.size_parts c
    have hF : ∀ p ∈ c.parts, F__law_words_of_condition n [.fr p.d] = some (.ok (.lst (p.cw.map .str)) [.fr p.d]) := fun p hpp => by
      have hle : ∀ (cs : List Cn) (p : Cn), p ∈ cs → p.size ≤ Cn.sizes cs := by
        intro cs
        induction cs with
        | nil => intro p hp; exact (List.not_mem_nil hp).elim
        | cons x xs ih =>
          intro p hp
          rw [Cn.sizes]
          rcases List.mem_cons.mp hp with rfl | hp
          · omega
          · have := ih p hp; omega
      have := hle _ p hpp
      exact ih p (hp p hpp) (by omega) (by omega)
    have H : FEv (F__law_words_of_condition (n + 1) [.fr c.d]) (@hq _ _ ⟨fun o os => o = .lst (c.cw.map .str) ∧ os = [.fr c.d]⟩) (fun _ _ => False) := by
      clear ih
      show FEv (mkF 3 [0] (G__law_words_of_condition (F__law_words_of_condition n)) [.fr c.d]) _ _
      have flat : ∀ (z : Str) (tl : List Str), (¬ z = PySem.Str.ofString "matches") → (¬ z = PySem.Str.ofString "and") → (¬ z = PySem.Str.ofString "or") → (¬ z = PySem.Str.ofString "not") → FEv (mkF 3 [0] (G__law_words_of_condition (F__law_words_of_condition n)) [.fr (.tup (.str z :: tl.map .str))]) (@hq _ _ ⟨fun o os => o = .lst ((z :: tl).map .str) ∧ os = [.fr (.tup (.str z :: tl.map .str))]⟩) (fun _ _ => False) := fun z tl n1 n2 n3 n4 => by
        rw [List.map_cons]
        generalize tl.map D.str = TL
        unfold G__law_words_of_condition
        clear h hp hF hsz hs
        walk_at "evd"
        first | exact hqi ⟨rfl, rfl⟩ | done
      cases c with
      | mat a p =>
        have e : (Cn.mat a p).cw = [PySem.Str.ofString "matches", a, eqz p] := by rw [Cn.cw]
        have pz : PatZ p := by cases h with | mat _ _ _ _ hq => exact hq
        have lz : (PySem.Str.ofString "=").length + p.length ≤ sizeLine := sz2_of (by have h1 := pz.2.1; have h2 : (PySem.Str.ofString "=").length = 1 := (by decide +kernel); omega)
        have ez : eqz p = PySem.Str.ofString "=" ++ p := rfl
        rw [e, Cn.d, ez]
        rw [show sMat = PySem.Str.ofString "matches" from rfl]
        unfold G__law_words_of_condition
        clear h hp hF hsz hs pz e ez flat
        walk_at "evd"
        first | exact hqi ⟨rfl, rfl⟩ | done
      | sam a b =>
        have e : (Cn.sam a b).cw = [sSam, a, b] := by rw [Cn.cw]
        rw [e, Cn.d]
        exact flat sSam [a, b] (by decide +kernel) (by decide +kernel) (by decide +kernel) (by decide +kernel)
      | emp a =>
        have e : (Cn.emp a).cw = [sEmp, a] := by rw [Cn.cw]
        rw [e, Cn.d]
        exact flat sEmp [a] (by decide +kernel) (by decide +kernel) (by decide +kernel) (by decide +kernel)
      | at0 w =>
        have e : (Cn.at0 w).cw = [wAt w] := by rw [Cn.cw]
        rw [e, Cn.d]
        exact flat (wAt w) [] (by cases w <;> decide +kernel) (by cases w <;> decide +kernel) (by cases w <;> decide +kernel) (by cases w <;> decide +kernel)
      | nt c =>
        have e : (Cn.nt c).cw.map D.str = [.str (PySem.Str.ofString "not")] ++ c.cw.map D.str := by rw [Cn.cw]; rfl
        have hc := hF c (by unfold Cn.parts; simp)
        have le : 1 + (c.cw.map D.str).length ≤ sizeLine := by
          have := cw_len c
          rw [Cn.size] at hs
          rw [List.length_map, sizeLine_eq]; omega
        have n1 : ¬ PySem.Str.ofString "not" = PySem.Str.ofString "matches" := by decide +kernel
        have n2 : ¬ PySem.Str.ofString "not" = PySem.Str.ofString "and" := by decide +kernel
        have n3 : ¬ PySem.Str.ofString "not" = PySem.Str.ofString "or" := by decide +kernel
        rw [e, Cn.d]
        rw [show sNot = PySem.Str.ofString "not" from rfl]
        generalize c.cw.map D.str = W at *
        generalize c.d = CD at *
        unfold G__law_words_of_condition
        clear h hp hF hsz hs e flat
        walk_at "evd"
        first | exact hqi ⟨rfl, rfl⟩ | done
      | nd w cs =>
        have go : ∀ z : Str, (¬ z = PySem.Str.ofString "matches") → (z = PySem.Str.ofString "and" ∨ z = PySem.Str.ofString "or") → FEv (mkF 3 [0] (G__law_words_of_condition (F__law_words_of_condition n)) [.fr (.tup (.str z :: cs.map Cn.d))]) (@hq _ _ ⟨fun o os => o = .lst (([z, nz (cs.length : Int)] ++ Cn.cws cs).map .str) ∧ os = [.fr (.tup (.str z :: cs.map Cn.d))]⟩) (fun _ _ => False) := fun z n1 hz => by
          have hsl := szs_len cs
          have hs1 : Cn.sizes cs ≤ 1000 := by rw [Cn.size] at hs; omega
          have gs := gStr_n (n := cs.length) (by omega)
          have lp := lw_loop (F__law_words_of_condition n) (some (.fr (.tup (.str z :: cs.map Cn.d)))) cs [z, nz (cs.length : Int)] (by simp) hs1 hF
          have ct : cutD (.str z :: cs.map Cn.d) (some 1) none = cs.map Cn.d := by rw [cutD_1]; rfl
          have lp' : Ev (forL (.n 2) (B__law_words_of_condition_0 (F__law_words_of_condition n)) (cs.map Cn.d) [some (.fr (.tup (.str z :: cs.map Cn.d))), some (.lst [.str z, .str (nz (cs.length : Int))]), none]) _ _ := lp
          have out : ∀ (fl : Fl) (e : Sl) (P : Prop), (fl = .next ∧ ∃ q3, e = [some (.fr (.tup (.str z :: cs.map Cn.d))), some (.lst (([z, nz (cs.length : Int)] ++ Cn.cws cs).map .str)), q3]) → (∀ q3, fl = .next → e = [some (.fr (.tup (.str z :: cs.map Cn.d))), some (.lst (([z, nz (cs.length : Int)] ++ Cn.cws cs).map .str)), q3] → P) → P := fun fl e P ⟨h1, q, h2⟩ h => h q h1 h2
          clear lp
          have lm : ((cs.map Cn.d).length : Int) = (cs.length : Int) := by rw [List.length_map]
          generalize ([z, nz (cs.length : Int)] ++ Cn.cws cs).map D.str = W at *
          generalize nz (cs.length : Int) = NZ at *
          generalize (cs.length : Int) = CL at *
          generalize cs.map Cn.d = CD at *
          have no : ¬ PySem.Str.ofString "or" = PySem.Str.ofString "and" := by decide +kernel
          unfold G__law_words_of_condition
          clear h hp hF hsz hs hs1 hsl flat
          rcases hz with rfl | rfl
          · clear no
            walk_at "evd"
            refine Ev.mono lp' ?_ (fun _ _ (h : False) => h.elim)
            intro fl e zz
            refine out fl e _ zz fun q3 h1 h2 => ?_
            subst h1 h2
            clear lp' out zz
            walk_at "evd"
            first | exact hqi ⟨rfl, rfl⟩ | done
          · walk_at "evd"
            refine Ev.mono lp' ?_ (fun _ _ (h : False) => h.elim)
            intro fl e zz
            refine out fl e _ zz fun q3 h1 h2 => ?_
            subst h1 h2
            clear lp' out zz
            walk_at "evd"
            first | exact hqi ⟨rfl, rfl⟩ | done
        have e : (Cn.nd w cs).cw = [wNd w, nz (cs.length : Int)] ++ Cn.cws cs := by rw [Cn.cw]; rfl
        rw [e, Cn.d, Cn.ds_map]
        exact go (wNd w) (by cases w <;> decide +kernel) (by cases w with | true => exact .inl rfl | false => exact .inr rfl)
    obtain ⟨o, os, h, rfl, rfl⟩ := H.get
    exact h
def Sc.ws : Sc → List Str
  | .val n => [sVal, n]
  | .txt z => [sTxt, eqz z]
  | .frs i => [sFrs, nz i]
def Ln.ws : Ln → List Str
  | .keep => [sKeep]
  | .clear => [sClear]
  | .src s => s.ws
/-- a word, of a text or a number -/
def wOf : D → Str
  | .str z => z
  | .int i => nz i
  | _ => sVal
theorem str2_ok (q0 : Option O) (ds : List D) (hl : ds.length ≤ 10) (h : ∀ d ∈ ds, (∃ z, d = .str z) ∨ ∃ n : Nat, n ≤ 1000 ∧ d = .int (n : Int)) : lcL [1] (.n 1) cYes C_format_line_0 ds [] [q0, none] = some (ds.map fun d => D.str (wOf d), [q0, none]) := by
  have := lc_map (own := [1]) (tg := .n 1) (C := C_format_line_0) (e := [q0, none]) id (fun d => D.str (wOf d)) ds (by omega) fun x hx => ⟨_, rfl, by
    rcases h x hx with ⟨z, rfl⟩ | ⟨n, hn, rfl⟩
    · have g : gStr2 [.str z] = some (sO z) := rfl
      have e : wOf (.str z) = z := rfl
      unfold C_format_line_0
      clear h hx
      walk_at "evd"
    · have g : gStr2 [.int (n : Int)] = some (sO (nz n)) := gStr_n hn
      have e : wOf (.int (n : Int)) = nz n := rfl
      unfold C_format_line_0
      clear h hx
      walk_at "evd"⟩
  rw [List.map_id] at this
  exact this
theorem eq_len : (PySem.Str.ofString "=").length = 1 := by decide +kernel
theorem fl_ok {N : List Str} {l : Ln} (h : LOk N l) : F_format_line [.fr l.d] = some (.ok (.lst (l.ws.map .str)) [.fr l.d]) := by
  have flat : ∀ (z : Str) (tl : List D), (¬ z = PySem.Str.ofString "text") → tl.length ≤ 5 → (∀ d ∈ tl, (∃ z, d = .str z) ∨ ∃ n : Nat, n ≤ 1000 ∧ d = .int (n : Int)) → F_format_line [.fr (.tup (.str z :: tl))] = some (.ok (.lst (.str z :: tl.map fun d => D.str (wOf d))) [.fr (.tup (.str z :: tl))]) := fun z tl n1 hl ht => by
    have hc := str2_ok (some (.fr (.tup (.str z :: tl)))) (.str z :: tl) (by rw [List.length_cons]; omega) fun d hd => (List.mem_cons.mp hd).elim (fun e => .inl ⟨z, e⟩) (ht d)
    rw [List.map_cons, show wOf (.str z) = z from rfl] at hc
    generalize (tl.map fun d => D.str (wOf d)) = W at *
    unfold F_format_line G_format_line
    clear ht h
    walk_at "evd"
  cases l with
  | keep => exact flat sKeep [] (by decide +kernel) (by simp) (fun d hd => (List.not_mem_nil hd).elim)
  | clear => exact flat sClear [] (by decide +kernel) (by simp) (fun d hd => (List.not_mem_nil hd).elim)
  | src s =>
    cases s with
    | val n => exact flat sVal [.str n] (by decide +kernel) (by simp) (fun d hd => by rw [List.mem_singleton.mp hd]; exact .inl ⟨n, rfl⟩)
    | frs i =>
      have hi : 0 ≤ i ∧ i < 3 := h
      obtain ⟨n, rfl⟩ := Int.eq_ofNat_of_zero_le hi.1
      exact flat sFrs [.int (n : Int)] (by decide +kernel) (by simp) (fun d hd => by rw [List.mem_singleton.mp hd]; exact .inr ⟨n, by omega, rfl⟩)
    | txt z =>
      have hz : LtrZ z ∧ z.length ≤ 8 := h
      have lz : (PySem.Str.ofString "=").length + z.length ≤ sizeLine := sz2_of (by have := eq_len; have := hz.2; omega)
      have ez : eqz z = PySem.Str.ofString "=" ++ z := rfl
      have e : (Ln.src (.txt z)).d = .tup [.str (PySem.Str.ofString "text"), .str z] := rfl
      have e2 : (Ln.src (.txt z)).ws.map D.str = [.str (PySem.Str.ofString "text"), .str (PySem.Str.ofString "=" ++ z)] := rfl
      rw [e, e2]
      unfold F_format_line G_format_line
      clear flat h hz ez e e2
      walk_at "evd"
theorem dig_ok {i : Int} (h : 0 ≤ i ∧ i < 3) : ∃ c, atI (PySem.Str.ofString "012").cps.toList i = some c ∧ one c = nz i := by
  have : i = 0 ∨ i = 1 ∨ i = 2 := by omega
  rcases this with rfl | rfl | rfl
  · exact ⟨48, by decide +kernel, by decide +kernel⟩
  · exact ⟨49, by decide +kernel, by decide +kernel⟩
  · exact ⟨50, by decide +kernel, by decide +kernel⟩
theorem wl_ok {N : List Str} {l : Ln} (h : LOk N l) : F__law_words_of_line [.fr l.d] = some (.ok (.lst (l.ws.map .str)) [.fr l.d]) := by
  have flat : ∀ (z : Str) (tl : List D), (¬ z = PySem.Str.ofString "text") → (¬ z = PySem.Str.ofString "fresh") → F__law_words_of_line [.fr (.tup (.str z :: tl))] = some (.ok (.lst (.str z :: tl)) [.fr (.tup (.str z :: tl))]) := fun z tl n1 n2 => by
    unfold F__law_words_of_line G__law_words_of_line
    clear h
    walk_at "evd"
  cases l with
  | keep => exact flat sKeep [] (by decide +kernel) (by decide +kernel)
  | clear => exact flat sClear [] (by decide +kernel) (by decide +kernel)
  | src s =>
    cases s with
    | val n => exact flat sVal [.str n] (by decide +kernel) (by decide +kernel)
    | frs i =>
      have hi : 0 ≤ i ∧ i < 3 := h
      obtain ⟨c, c1, c2⟩ := dig_ok hi
      have n1 : ¬ PySem.Str.ofString "fresh" = PySem.Str.ofString "text" := by decide +kernel
      have hs : (PySem.Str.ofString "012").length ≤ sizeLine := sz_of (by decide +kernel)
      have e : (Ln.src (.frs i)).d = .tup [.str (PySem.Str.ofString "fresh"), .int i] := rfl
      have e2 : (Ln.src (.frs i)).ws.map D.str = [.str (PySem.Str.ofString "fresh"), .str (one c)] := by rw [c2]; rfl
      rw [e, e2]
      unfold F__law_words_of_line G__law_words_of_line
      clear flat h hi e e2 c2
      walk_at "evd"
    | txt z =>
      have hz : LtrZ z ∧ z.length ≤ 8 := h
      have lz : (PySem.Str.ofString "=").length + z.length ≤ sizeLine := sz2_of (by have := eq_len; have := hz.2; omega)
      have e : (Ln.src (.txt z)).d = .tup [.str (PySem.Str.ofString "text"), .str z] := rfl
      have e2 : (Ln.src (.txt z)).ws.map D.str = [.str (PySem.Str.ofString "text"), .str (PySem.Str.ofString "=" ++ z)] := rfl
      rw [e, e2]
      unfold F__law_words_of_line G__law_words_of_line
      clear flat h hz e e2
      walk_at "evd"
/-! the rule's line -/
def stS : Option Str → Str
  | none => PySem.Str.ofString "-"
  | some z => z
def Rl.hd1 (r : Rl) : List Str := [PySem.Str.ofString "rule", stS r.st, r.kd]
def Rl.hd2 (r : Rl) : List Str := [PySem.Str.ofString "answer", r.w, nz (r.src.length : Int)]
def Rl.pre (r : Rl) : List Str := r.hd1 ++ r.c.cw ++ r.hd2
def Rl.mid (r : Rl) : List Str := r.pre ++ r.src.flatMap Sc.ws ++ [PySem.Str.ofString "turn"]
def Rl.body (r : Rl) : List Str := r.mid ++ r.ln.flatMap Ln.ws
def Rl.ws (r : Rl) : List Str := r.body ++ [PySem.Str.ofString "next", r.to]
theorem sc_ws (s : Sc) : s.ws.length ≤ 2 := by cases s <;> simp [Sc.ws]
theorem ln_ws (l : Ln) : l.ws.length ≤ 2 := by
  cases l with
  | src s => exact sc_ws s
  | _ => simp [Ln.ws]
theorem fm_le {α : Type} {f : α → List Str} {b : Nat} : ∀ {xs : List α}, (∀ x ∈ xs, (f x).length ≤ b) → (xs.flatMap f).length ≤ xs.length * b
  | [], _ => by simp
  | x :: xs, h => by
    have a := h x List.mem_cons_self
    have c := fm_le (f := f) (b := b) fun y hy => h y (List.mem_cons_of_mem x hy)
    rw [List.flatMap_cons, List.length_append, List.length_cons, Nat.add_mul]
    omega
/-- format_rule's two loops, and the law's -/
theorem fr_loop0 (q0 q1 q4 : Option O) (N : List Str) (xs : List Sc) (hx : ∀ s ∈ xs, SOk N s) (P : List Str) (hP : P.length ≤ 1000) (hl : xs.length ≤ 100) : Ev (forL (.n 3) B_format_rule_0 (xs.map Sc.d) [q0, q1, some (.lst (P.map .str)), none, q4]) (@hq _ _ ⟨fun fl e => fl = .next ∧ ∃ q3, e = [q0, q1, some (.lst ((P ++ xs.flatMap Sc.ws).map .str)), q3, q4]⟩) (fun _ _ => False) := by
  refine Ev_forP (f := Sc.d) (fun done e => @Dn.hb _ ⟨fun e => ∃ q3, e = [q0, q1, some (.lst ((P ++ done.flatMap Sc.ws).map .str)), q3, q4]⟩ e) _ xs [] _ (hbi ⟨none, by simp⟩) ?_ (fun e ⟨q, h⟩ => hqi ⟨rfl, q, h⟩)
  rintro pre x post e he ⟨q3, rfl⟩
  rw [List.nil_append] at he
  refine ⟨_, rfl, ?_⟩
  have hf := fl_ok (l := .src x) (hx x (by rw [he]; simp))
  have hf' : F_format_line [.fr x.d] = some (.ok (.lst (x.ws.map .str)) [.fr x.d]) := hf
  have hlen := congrArg List.length he
  rw [List.length_append, List.length_cons] at hlen
  have h1 := fm_le (f := Sc.ws) (b := 2) (xs := pre) fun s _ => sc_ws s
  have h2 := sc_ws x
  have le : ((P ++ pre.flatMap Sc.ws).map D.str).length + (x.ws.map D.str).length ≤ sizeLine := by rw [List.length_map, List.length_map, List.length_append, sizeLine_eq]; omega
  have ea : (P ++ pre.flatMap Sc.ws).map D.str ++ x.ws.map D.str = (P ++ (pre ++ [x]).flatMap Sc.ws).map D.str := by rw [List.flatMap_append, ← List.map_append, List.append_assoc]; simp
  have fin : ∀ q3 : Option O, @Dn.hb Sl ⟨fun e => ∃ q3, e = [q0, q1, some (.lst ((P ++ (pre ++ [x]).flatMap Sc.ws).map .str)), q3, q4]⟩ [q0, q1, some (.lst ((P ++ pre.flatMap Sc.ws).map D.str ++ x.ws.map D.str)), q3, q4] := fun q3 => hbi ⟨q3, by rw [ea]⟩
  generalize (P ++ pre.flatMap Sc.ws).map D.str = A at *
  generalize x.ws.map D.str = B at *
  generalize x.d = xd at *
  unfold B_format_rule_0
  clear he hf hx hlen h1 h2 ea hP hl
  walk_at "evd"
theorem fr_loop1 (q0 q1 q3 : Option O) (N : List Str) (xs : List Ln) (hx : ∀ s ∈ xs, LOk N s) (P : List Str) (hP : P.length ≤ 1000) (hl : xs.length ≤ 100) : Ev (forL (.n 4) B_format_rule_1 (xs.map Ln.d) [q0, q1, some (.lst (P.map .str)), q3, none]) (@hq _ _ ⟨fun fl e => fl = .next ∧ ∃ q4, e = [q0, q1, some (.lst ((P ++ xs.flatMap Ln.ws).map .str)), q3, q4]⟩) (fun _ _ => False) := by
  refine Ev_forP (f := Ln.d) (fun done e => @Dn.hb _ ⟨fun e => ∃ q4, e = [q0, q1, some (.lst ((P ++ done.flatMap Ln.ws).map .str)), q3, q4]⟩ e) _ xs [] _ (hbi ⟨none, by simp⟩) ?_ (fun e ⟨q, h⟩ => hqi ⟨rfl, q, h⟩)
  rintro pre x post e he ⟨q4, rfl⟩
  rw [List.nil_append] at he
  refine ⟨_, rfl, ?_⟩
  have hf := fl_ok (hx x (by rw [he]; simp))
  have hlen := congrArg List.length he
  rw [List.length_append, List.length_cons] at hlen
  have h1 := fm_le (f := Ln.ws) (b := 2) (xs := pre) fun s _ => ln_ws s
  have h2 := ln_ws x
  have le : ((P ++ pre.flatMap Ln.ws).map D.str).length + (x.ws.map D.str).length ≤ sizeLine := by rw [List.length_map, List.length_map, List.length_append, sizeLine_eq]; omega
  have ea : (P ++ pre.flatMap Ln.ws).map D.str ++ x.ws.map D.str = (P ++ (pre ++ [x]).flatMap Ln.ws).map D.str := by rw [List.flatMap_append, ← List.map_append, List.append_assoc]; simp
  have fin : ∀ q4 : Option O, @Dn.hb Sl ⟨fun e => ∃ q4, e = [q0, q1, some (.lst ((P ++ (pre ++ [x]).flatMap Ln.ws).map .str)), q3, q4]⟩ [q0, q1, some (.lst ((P ++ pre.flatMap Ln.ws).map D.str ++ x.ws.map D.str)), q3, q4] := fun q4 => hbi ⟨q4, by rw [ea]⟩
  generalize (P ++ pre.flatMap Ln.ws).map D.str = A at *
  generalize x.ws.map D.str = B at *
  generalize x.d = xd at *
  unfold B_format_rule_1
  clear he hx hlen h1 h2 ea hP hl
  walk_at "evd"
theorem lr_loop0 (q0 q3 : Option O) (N : List Str) (xs : List Sc) (hx : ∀ s ∈ xs, SOk N s) (P : List Str) (hP : P.length ≤ 1000) (hl : xs.length ≤ 100) : Ev (forL (.n 2) B__law_line_of_rule_0 (xs.map Sc.d) [q0, some (.lst (P.map .str)), none, q3]) (@hq _ _ ⟨fun fl e => fl = .next ∧ ∃ q2, e = [q0, some (.lst ((P ++ xs.flatMap Sc.ws).map .str)), q2, q3]⟩) (fun _ _ => False) := by
  refine Ev_forP (f := Sc.d) (fun done e => @Dn.hb _ ⟨fun e => ∃ q2, e = [q0, some (.lst ((P ++ done.flatMap Sc.ws).map .str)), q2, q3]⟩ e) _ xs [] _ (hbi ⟨none, by simp⟩) ?_ (fun e ⟨q, h⟩ => hqi ⟨rfl, q, h⟩)
  rintro pre x post e he ⟨q2, rfl⟩
  rw [List.nil_append] at he
  refine ⟨_, rfl, ?_⟩
  have hf := wl_ok (l := .src x) (hx x (by rw [he]; simp))
  have hf' : F__law_words_of_line [.fr x.d] = some (.ok (.lst (x.ws.map .str)) [.fr x.d]) := hf
  have hlen := congrArg List.length he
  rw [List.length_append, List.length_cons] at hlen
  have h1 := fm_le (f := Sc.ws) (b := 2) (xs := pre) fun s _ => sc_ws s
  have h2 := sc_ws x
  have le : ((P ++ pre.flatMap Sc.ws).map D.str).length + (x.ws.map D.str).length ≤ sizeLine := by rw [List.length_map, List.length_map, List.length_append, sizeLine_eq]; omega
  have ea : (P ++ pre.flatMap Sc.ws).map D.str ++ x.ws.map D.str = (P ++ (pre ++ [x]).flatMap Sc.ws).map D.str := by rw [List.flatMap_append, ← List.map_append, List.append_assoc]; simp
  have fin : ∀ q2 : Option O, @Dn.hb Sl ⟨fun e => ∃ q2, e = [q0, some (.lst ((P ++ (pre ++ [x]).flatMap Sc.ws).map .str)), q2, q3]⟩ [q0, some (.lst ((P ++ pre.flatMap Sc.ws).map D.str ++ x.ws.map D.str)), q2, q3] := fun q2 => hbi ⟨q2, by rw [ea]⟩
  generalize (P ++ pre.flatMap Sc.ws).map D.str = A at *
  generalize x.ws.map D.str = B at *
  generalize x.d = xd at *
  unfold B__law_line_of_rule_0
  clear he hf hx hlen h1 h2 ea hP hl
  walk_at "evd"
theorem lr_loop1 (q0 q2 : Option O) (N : List Str) (xs : List Ln) (hx : ∀ s ∈ xs, LOk N s) (P : List Str) (hP : P.length ≤ 1000) (hl : xs.length ≤ 100) : Ev (forL (.n 3) B__law_line_of_rule_1 (xs.map Ln.d) [q0, some (.lst (P.map .str)), q2, none]) (@hq _ _ ⟨fun fl e => fl = .next ∧ ∃ q3, e = [q0, some (.lst ((P ++ xs.flatMap Ln.ws).map .str)), q2, q3]⟩) (fun _ _ => False) := by
  refine Ev_forP (f := Ln.d) (fun done e => @Dn.hb _ ⟨fun e => ∃ q3, e = [q0, some (.lst ((P ++ done.flatMap Ln.ws).map .str)), q2, q3]⟩ e) _ xs [] _ (hbi ⟨none, by simp⟩) ?_ (fun e ⟨q, h⟩ => hqi ⟨rfl, q, h⟩)
  rintro pre x post e he ⟨q3, rfl⟩
  rw [List.nil_append] at he
  refine ⟨_, rfl, ?_⟩
  have hf := wl_ok (hx x (by rw [he]; simp))
  have hlen := congrArg List.length he
  rw [List.length_append, List.length_cons] at hlen
  have h1 := fm_le (f := Ln.ws) (b := 2) (xs := pre) fun s _ => ln_ws s
  have h2 := ln_ws x
  have le : ((P ++ pre.flatMap Ln.ws).map D.str).length + (x.ws.map D.str).length ≤ sizeLine := by rw [List.length_map, List.length_map, List.length_append, sizeLine_eq]; omega
  have ea : (P ++ pre.flatMap Ln.ws).map D.str ++ x.ws.map D.str = (P ++ (pre ++ [x]).flatMap Ln.ws).map D.str := by rw [List.flatMap_append, ← List.map_append, List.append_assoc]; simp
  have fin : ∀ q3 : Option O, @Dn.hb Sl ⟨fun e => ∃ q3, e = [q0, some (.lst ((P ++ (pre ++ [x]).flatMap Ln.ws).map .str)), q2, q3]⟩ [q0, some (.lst ((P ++ pre.flatMap Ln.ws).map D.str ++ x.ws.map D.str)), q2, q3] := fun q3 => hbi ⟨q3, by rw [ea]⟩
  generalize (P ++ pre.flatMap Ln.ws).map D.str = A at *
  generalize x.ws.map D.str = B at *
  generalize x.d = xd at *
  unfold B__law_line_of_rule_1
  clear he hx hlen h1 h2 ea hP hl
  walk_at "evd"
theorem sum_le : ∀ (ws : List Str) (m : Nat), (∀ w ∈ ws, w.length ≤ m) → (ws.map (·.length)).sum ≤ ws.length * m
  | [], _, _ => by simp
  | w :: ws, m, h => by
    have h1 := h w List.mem_cons_self
    have h2 := sum_le ws m fun y hy => h y (List.mem_cons_of_mem _ hy)
    rw [List.map_cons, List.sum_cons, List.length_cons, Nat.add_mul]; omega
theorem gJoin_ok (a : Str) (ws : List Str) (m k : Nat) (h : ∀ w ∈ ws, w.length ≤ m) (hk : ws.length ≤ k) (ha : a.length = 1) (hb : k * (m + 1) ≤ 16000000) : gJoin [.str a, .lst (ws.map .str)] = some (sO (Txt.join a ws)) := by
  show (strsD (ws.map .str)).bind _ = _
  rw [strsD_str]
  have := sum_le ws m h
  have h2 : ws.length * m + ws.length ≤ k * (m + 1) := by
    have := Nat.mul_le_mul_right (m + 1) hk
    rw [Nat.mul_add, Nat.mul_one] at this
    exact this
  show (if (ws.map (·.length)).sum + ws.length * a.length ≤ 16777216 then some (sO (Txt.join a ws)) else none) = _
  rw [if_pos (by rw [ha]; omega)]
theorem nz_fin : ∀ n : Fin 1001, (nz (n.val : Int)).length ≤ 20 := by decide +kernel
theorem nz_len {n : Nat} (h : n ≤ 1000) : (nz (n : Int)).length ≤ 20 := nz_fin ⟨n, by omega⟩
theorem eqz_len {p : Str} (h : p.length ≤ 20) : (eqz p).length ≤ 100 := by
  unfold eqz
  rw [len_app, eq_len]; omega
theorem words_len : ∀ z ∈ [sAlw, sNev, sMat, sSam, sEmp, sNot, sAnd, sOr, sVal, sTxt, sFrs, sKeep, sClear, PySem.Str.ofString "rule", PySem.Str.ofString "-", PySem.Str.ofString "answer", PySem.Str.ofString "turn", PySem.Str.ofString "next"], z.length ≤ 100 := by decide +kernel
theorem cw_w {N R : List Str} (hN : ∀ z ∈ N, z.length ≤ 20) (hR : ∀ z ∈ R, z.length ≤ 20) : ∀ (n : Nat) (c : Cn), COk N R n c → c.size ≤ 1000 → ∀ w ∈ c.cw, w.length ≤ 100 := by
  intro n
  induction n with
  | zero => intro c h; obtain ⟨j, hj, _⟩ := h.dp; omega
  | succ n ih =>
    intro c h hs w hw
    cases h with
    | at0 _ b =>
      rw [Cn.cw, List.mem_singleton] at hw
      rw [hw]; exact words_len _ (by cases b <;> simp [wAt])
    | mat _ a p ha hp =>
      rw [Cn.cw] at hw
      simp only [List.mem_cons, List.not_mem_nil, or_false] at hw
      rcases hw with hw | hw | hw <;> rw [hw]
      · exact words_len _ (by simp)
      · have := hN a ha; omega
      · exact eqz_len (by have := hp.2.1; omega)
    | sam _ a b ha hb =>
      rw [Cn.cw] at hw
      simp only [List.mem_cons, List.not_mem_nil, or_false] at hw
      rcases hw with hw | hw | hw <;> rw [hw]
      · exact words_len _ (by simp)
      · have := hN a ha; omega
      · have := hN b hb; omega
    | emp _ a ha =>
      rw [Cn.cw] at hw
      simp only [List.mem_cons, List.not_mem_nil, or_false] at hw
      rcases hw with hw | hw <;> rw [hw]
      · exact words_len _ (by simp)
      · have := hR a ha; omega
    | nt _ c hc =>
      rw [Cn.cw] at hw
      rw [Cn.size] at hs
      rcases List.mem_cons.mp hw with hw | hw
      · rw [hw]; exact words_len _ (by simp)
      · exact ih c hc (by omega) w hw
    | nd _ b cs hc =>
      rw [Cn.cw] at hw
      rw [Cn.size] at hs
      have hsl := szs_len cs
      rcases List.mem_cons.mp hw with hw | hw
      · rw [hw]; exact words_len _ (by cases b <;> simp [wNd])
      · rcases List.mem_cons.mp hw with hw | hw
        · rw [hw]; have := nz_len (n := cs.length) (by omega); omega
        · have key : ∀ cs : List Cn, (∀ x ∈ cs, COk N R n x) → Cn.sizes cs ≤ 1000 → w ∈ Cn.cws cs → w.length ≤ 100 := by
            intro cs
            induction cs with
            | nil => intro _ _ h; rw [Cn.cws] at h; exact (List.not_mem_nil h).elim
            | cons x xs ih2 =>
              intro h1 h2 h3
              rw [Cn.cws] at h3
              rw [Cn.sizes] at h2
              rcases List.mem_append.mp h3 with h3 | h3
              · exact ih x (h1 x List.mem_cons_self) (by omega) w h3
              · exact ih2 (fun y hy => h1 y (List.mem_cons_of_mem _ hy)) (by omega) h3
          exact key cs hc (by omega) hw
theorem sc_w {N : List Str} (hN : ∀ z ∈ N, z.length ≤ 20) {s : Sc} (h : SOk N s) : ∀ w ∈ s.ws, w.length ≤ 100 := fun w hw => by
  cases s with
  | val n =>
    have hw' : w ∈ [sVal, n] := hw
    simp only [List.mem_cons, List.not_mem_nil, or_false] at hw'
    rcases hw' with hw | hw <;> rw [hw]
    · exact words_len _ (by simp)
    · have := hN n h; omega
  | txt z =>
    have hw' : w ∈ [sTxt, eqz z] := hw
    simp only [List.mem_cons, List.not_mem_nil, or_false] at hw'
    rcases hw' with hw | hw <;> rw [hw]
    · exact words_len _ (by simp)
    · exact eqz_len (by have := h.2; omega)
  | frs i =>
    have hi : 0 ≤ i ∧ i < 3 := h
    obtain ⟨n, rfl⟩ := Int.eq_ofNat_of_zero_le hi.1
    have hw' : w ∈ [sFrs, nz (n : Int)] := hw
    simp only [List.mem_cons, List.not_mem_nil, or_false] at hw'
    rcases hw' with hw | hw <;> rw [hw]
    · exact words_len _ (by simp)
    · have := nz_len (n := n) (by omega); omega
theorem ln_w {N : List Str} (hN : ∀ z ∈ N, z.length ≤ 20) {l : Ln} (h : LOk N l) : ∀ w ∈ l.ws, w.length ≤ 100 := fun w hw => by
  cases l with
  | keep => rw [List.mem_singleton.mp hw]; exact words_len _ (by simp)
  | clear => rw [List.mem_singleton.mp hw]; exact words_len _ (by simp)
  | src s => exact sc_w hN h w hw
/-- the words of a rule: how many, how long -/
theorem rule_ws {v : Sv} (hv : VOk v) {r : Rl} (hr : r ∈ v.rs) : (∀ w ∈ r.ws, w.length ≤ 100) ∧ r.ws.length ≤ 200 ∧ r.pre.length ≤ 100 ∧ r.mid.length ≤ 150 := by
  have h := hv.rs r hr
  obtain ⟨vs, hk, hc, hs, hl⟩ := h.kd
  have hkk := hv.rq.k _ hk
  have hN : ∀ z ∈ nmsOf v.rg vs, z.length ≤ 20 := fun z hz => by
    unfold nmsOf at hz
    rcases List.mem_append.mp hz with hz | hz
    · rcases List.mem_append.mp hz with hz | hz
      · have := (hv.rg.nm z hz).2.2; omega
      · have := (hkk.2.1.nm z hz).2.2; omega
    · rw [List.mem_singleton.mp hz]; decide +kernel
  have hR : ∀ z ∈ v.rg, z.length ≤ 20 := fun z hz => by have := (hv.rg.nm z hz).2.2; omega
  have hcl := cw_len r.c
  have hsz := h.sz
  have hsl := h.sl
  have hll := h.ll
  have hrl := hv.rl
  have m1 := fm_le (f := Sc.ws) (b := 2) (xs := r.src) fun s _ => sc_ws s
  have m2 := fm_le (f := Ln.ws) (b := 2) (xs := r.ln) fun s _ => ln_ws s
  have l1 : r.pre.length ≤ 100 := by unfold Rl.pre Rl.hd1 Rl.hd2; simp only [List.length_append, List.length_cons, List.length_nil]; omega
  have l2 : r.mid.length ≤ 150 := by unfold Rl.mid; simp only [List.length_append, List.length_cons, List.length_nil]; omega
  refine ⟨fun w hw => ?_, ?_, l1, l2⟩
  · have two : ∀ x y : Str, x.length ≤ 100 → y.length ≤ 100 → ∀ z ∈ [x, y], z.length ≤ 100 := fun x y hx hy z hz => by
      simp only [List.mem_cons, List.not_mem_nil, or_false] at hz
      rcases hz with hz | hz <;> rw [hz] <;> assumption
    have three : ∀ x y u : Str, x.length ≤ 100 → y.length ≤ 100 → u.length ≤ 100 → ∀ z ∈ [x, y, u], z.length ≤ 100 := fun x y u hx hy hu z hz => by
      simp only [List.mem_cons, List.not_mem_nil, or_false] at hz
      rcases hz with hz | hz | hz <;> rw [hz] <;> assumption
    have hto : r.to.length ≤ 100 := by have := (hv.st.nm r.to h.to).2.2; omega
    have hkd0 : r.kd.length ≤ 12 := hkk.1.2.2
    have hkd : r.kd.length ≤ 100 := by omega
    have hst : (stS r.st).length ≤ 100 := by
      rcases h.s with e | ⟨z, zm, e, _⟩ <;> rw [e]
      · exact words_len _ (by simp [stS])
      · have := (hv.st.nm z zm).2.2; show z.length ≤ 100; omega
    have hw1 : r.w.length ≤ 100 := by have := h.w.2.2; omega
    have hnz : (nz (r.src.length : Int)).length ≤ 100 := by have := nz_len (n := r.src.length) (by omega); omega
    rcases List.mem_append.mp hw with hw | hw
    · rcases List.mem_append.mp hw with hw | hw
      · rcases List.mem_append.mp hw with hw | hw
        · rcases List.mem_append.mp hw with hw | hw
          · rcases List.mem_append.mp hw with hw | hw
            · rcases List.mem_append.mp hw with hw | hw
              · exact three _ _ _ (words_len _ (by simp)) hst hkd w hw
              · exact cw_w hN hR 3 r.c hc (by omega) w hw
            · exact three _ _ _ (words_len _ (by simp)) hw1 hnz w hw
          · obtain ⟨s, h1, h2⟩ := List.mem_flatMap.mp hw
            exact sc_w hN (hs s h1) w h2
        · rw [List.mem_singleton.mp hw]; exact words_len _ (by simp)
      · obtain ⟨s, h1, h2⟩ := List.mem_flatMap.mp hw
        exact ln_w hN (hl s h1) w h2
    · exact two _ _ (words_len _ (by simp)) hto w hw
  · unfold Rl.ws Rl.body; simp only [List.length_append, List.length_cons, List.length_nil]; omega
theorem join_len {a : Str} {ws : List Str} {m k : Nat} (h : ∀ w ∈ ws, w.length ≤ m) (hk : ws.length ≤ k) (ha : a.length = 1) : (Txt.join a ws).length ≤ k * (m + 1) := by
  have e : (Txt.join a ws).length ≤ (ws.map (·.length)).sum + ws.length * a.length := by
    show (PySem.Builtin.Str.glued a ws).length ≤ _
    rw [StrLaws.glued_eq_join]
    exact StrLaws.join_length_le a ws
  have := sum_le ws m h
  have h2 := Nat.mul_le_mul_right (m + 1) hk
  rw [Nat.mul_add, Nat.mul_one] at h2
  rw [ha] at e
  omega
abbrev sSp : Str := PySem.Str.ofString " "
theorem sp_len : sSp.length = 1 := by decide +kernel
def Rl.line (r : Rl) : Str := Txt.join sSp r.ws
theorem rule_join {v : Sv} (hv : VOk v) {r : Rl} (hr : r ∈ v.rs) : gJoin [.str (PySem.Str.ofString " "), .lst (r.ws.map .str)] = some (sO r.line) ∧ r.line.length ≤ 20200 := by
  have h := rule_ws hv hr
  exact ⟨gJoin_ok sSp r.ws 100 200 h.1 h.2.1 sp_len (by decide), join_len (m := 100) (k := 200) h.1 h.2.1 sp_len⟩
theorem map_app3 (a b c : List Str) : (a ++ b ++ c).map D.str = a.map D.str ++ b.map D.str ++ c.map D.str := by rw [List.map_append, List.map_append]
theorem frule_ok {v : Sv} (hv : VOk v) {r : Rl} (hr : r ∈ v.rs) : F_format_rule [.fr r.d] = some (.ok (sO r.line) [.fr r.d]) := by
  have h := hv.rs r hr
  obtain ⟨vs, hk, hc, hs, hl⟩ := h.kd
  have hw := rule_ws hv hr
  have hj := (rule_join hv hr).1
  have fc := fc_ok (nmsOf v.rg vs) v.rg (nms_ltr (fun z hz => (hv.rg.nm z hz).1) (fun z hz => ((hv.rq.k _ hk).2.1.nm z hz).1)) 40 3 r.c hc (by omega) (by have := h.sz; omega)
  have hcl := cw_len r.c
  have hsz := h.sz
  have hsl := h.sl
  have hll := h.ll
  have hrl := hv.rl
  have gs := gStr_n (n := r.src.length) (by omega)
  have H : FEv (F_format_rule [.fr r.d]) (@hq _ _ ⟨fun o os => o = sO r.line ∧ os = [.fr r.d]⟩) (fun _ _ => False) := by
    have de : r.d = .tup [stD r.st, .str r.kd, r.c.d, .tup (.str r.w :: r.src.map Sc.d), .tup (r.ln.map Ln.d), .str r.to] := rfl
    have ct : cutD (.str r.w :: r.src.map Sc.d) (some 1) none = r.src.map Sc.d := by rw [cutD_1]; rfl
    have lm : ((r.src.map Sc.d).length : Int) = (r.src.length : Int) := by rw [List.length_map]
    have p0 : r.pre.map D.str = [.str (PySem.Str.ofString "rule"), .str (stS r.st), .str r.kd] ++ r.c.cw.map D.str ++ [.str (PySem.Str.ofString "answer"), .str r.w, .str (nz (r.src.length : Int))] := map_app3 _ _ _
    have p1 : r.mid.map D.str = (r.pre ++ r.src.flatMap Sc.ws).map D.str ++ [.str (PySem.Str.ofString "turn")] := by unfold Rl.mid; rw [List.map_append]; rfl
    have p2 : r.ws.map D.str = (r.mid ++ r.ln.flatMap Ln.ws).map D.str ++ [.str (PySem.Str.ofString "next"), .str r.to] := by unfold Rl.ws Rl.body; rw [List.map_append]; rfl
    have z1 : 3 + (r.c.cw.map D.str).length ≤ sizeLine := by rw [List.length_map, sizeLine_eq]; omega
    have z2 : 3 + (r.c.cw.map D.str).length + 3 ≤ sizeLine := by rw [List.length_map, sizeLine_eq]; omega
    have z5 : (r.c.cw.map D.str).length + 1 + 1 + 1 + 3 ≤ sizeLine := by rw [List.length_map, sizeLine_eq]; omega
    have z6 : 1 + 1 + 1 + (r.c.cw.map D.str).length ≤ sizeLine := by rw [List.length_map, sizeLine_eq]; omega
    have hbl : (r.mid ++ r.ln.flatMap Ln.ws).length ≤ 200 := by
      have := hw.2.1
      unfold Rl.ws Rl.body at this
      rw [List.length_append] at this; omega
    have hml : (r.pre ++ r.src.flatMap Sc.ws).length ≤ 150 := by
      have := hw.2.2.2
      unfold Rl.mid at this
      rw [List.length_append] at this; omega
    have z3 : ((r.pre ++ r.src.flatMap Sc.ws).map D.str).length < sizeLine := by rw [List.length_map, sizeLine_eq]; omega
    have z4 : ((r.mid ++ r.ln.flatMap Ln.ws).map D.str).length + 2 ≤ sizeLine := by rw [List.length_map, sizeLine_eq]; omega
    have lp0 := fun q0 q1 => fr_loop0 q0 q1 none (nmsOf v.rg vs) r.src hs r.pre (by have := hw.2.2.1; omega) (by omega)
    have lp1 := fun q0 q1 q3 => fr_loop1 q0 q1 q3 (nmsOf v.rg vs) r.ln hl r.mid (by have := hw.2.2.2; omega) (by omega)
    rw [p0] at lp0
    rw [p1] at lp1
    rw [p2] at hj
    have out0 : ∀ (q0 q1 : Option O) (fl : Fl) (e : Sl) (P : Prop), (fl = .next ∧ ∃ q3, e = [q0, q1, some (.lst ((r.pre ++ r.src.flatMap Sc.ws).map .str)), q3, none]) → (∀ q3, fl = .next → e = [q0, q1, some (.lst ((r.pre ++ r.src.flatMap Sc.ws).map .str)), q3, none] → P) → P := fun q0 q1 fl e P ⟨h1, q, h2⟩ h => h q h1 h2
    have out1 : ∀ (q0 q1 q3 : Option O) (fl : Fl) (e : Sl) (P : Prop), (fl = .next ∧ ∃ q4, e = [q0, q1, some (.lst ((r.mid ++ r.ln.flatMap Ln.ws).map .str)), q3, q4]) → (∀ q4, fl = .next → e = [q0, q1, some (.lst ((r.mid ++ r.ln.flatMap Ln.ws).map .str)), q3, q4] → P) → P := fun q0 q1 q3 fl e P ⟨h1, q, h2⟩ h => h q h1 h2
    have stn : (r.st = none ∧ stS r.st = PySem.Str.ofString "-") ∨ ∃ z, r.st = some z ∧ stS r.st = z := by
      cases r.st with
      | none => exact .inl ⟨rfl, rfl⟩
      | some z => exact .inr ⟨z, rfl, rfl⟩
    rw [de]
    clear de h hk hc hs hl hw hcl hsz hsl hll hrl hbl hml p0 p1 p2 hv hr
    generalize (r.pre ++ r.src.flatMap Sc.ws).map D.str = W1 at *
    generalize (r.mid ++ r.ln.flatMap Ln.ws).map D.str = W2 at *
    generalize r.src.map Sc.d = SS at *
    generalize r.ln.map Ln.d = LS at *
    generalize r.c.cw.map D.str = CW at *
    generalize r.c.d = CD at *
    generalize nz (r.src.length : Int) = NZ at *
    generalize (r.src.length : Int) = NI at *
    generalize r.line = RL at *
    unfold F_format_rule G_format_rule
    rcases stn with ⟨e1, e2⟩ | ⟨z, e1, e2⟩
    · rw [e2] at lp0
      rw [e1]
      have sd : stD none = .non := rfl
      rw [sd]
      have lp0 := lp0 (some (.fr (.tup [.non, .str r.kd, CD, .tup (.str r.w :: SS), .tup LS, .str r.to]))) (some (sO (PySem.Str.ofString "-")))
      have out0 := out0 (some (.fr (.tup [.non, .str r.kd, CD, .tup (.str r.w :: SS), .tup LS, .str r.to]))) (some (sO (PySem.Str.ofString "-")))
      have lp1 := lp1 (some (.fr (.tup [.non, .str r.kd, CD, .tup (.str r.w :: SS), .tup LS, .str r.to]))) (some (sO (PySem.Str.ofString "-")))
      have out1 := out1 (some (.fr (.tup [.non, .str r.kd, CD, .tup (.str r.w :: SS), .tup LS, .str r.to]))) (some (sO (PySem.Str.ofString "-")))
      clear e1 e2 sd
      simp only [List.cons_append, List.nil_append, List.append_assoc] at lp0
      walk_at "evd"
      refine Ev.mono lp0 ?_ (fun _ _ (h : False) => h.elim)
      intro fl e zz
      refine out0 fl e _ zz fun q3 h1 h2 => ?_
      subst h1 h2
      have lp1 := lp1 q3
      have out1 := out1 q3
      clear lp0 out0 zz fc gs lm ct z1 z2
      walk_at "evd"
      refine Ev.mono lp1 ?_ (fun _ _ (h : False) => h.elim)
      intro fl e zz
      refine out1 fl e _ zz fun q4 h1 h2 => ?_
      subst h1 h2
      clear lp1 out1 zz
      walk_at "evd"
      first | exact hqi ⟨rfl, rfl⟩ | done
    · rw [e2] at lp0
      rw [e1]
      have sd : stD (some z) = .str z := rfl
      rw [sd]
      have lp0 := lp0 (some (.fr (.tup [.str z, .str r.kd, CD, .tup (.str r.w :: SS), .tup LS, .str r.to]))) (some (sO (z)))
      have out0 := out0 (some (.fr (.tup [.str z, .str r.kd, CD, .tup (.str r.w :: SS), .tup LS, .str r.to]))) (some (sO (z)))
      have lp1 := lp1 (some (.fr (.tup [.str z, .str r.kd, CD, .tup (.str r.w :: SS), .tup LS, .str r.to]))) (some (sO (z)))
      have out1 := out1 (some (.fr (.tup [.str z, .str r.kd, CD, .tup (.str r.w :: SS), .tup LS, .str r.to]))) (some (sO (z)))
      clear e1 e2 sd
      simp only [List.cons_append, List.nil_append, List.append_assoc] at lp0
      walk_at "evd"
      refine Ev.mono lp0 ?_ (fun _ _ (h : False) => h.elim)
      intro fl e zz
      refine out0 fl e _ zz fun q3 h1 h2 => ?_
      subst h1 h2
      have lp1 := lp1 q3
      have out1 := out1 q3
      clear lp0 out0 zz fc gs lm ct z1 z2
      walk_at "evd"
      refine Ev.mono lp1 ?_ (fun _ _ (h : False) => h.elim)
      intro fl e zz
      refine out1 fl e _ zz fun q4 h1 h2 => ?_
      subst h1 h2
      clear lp1 out1 zz
      walk_at "evd"
      first | exact hqi ⟨rfl, rfl⟩ | done
  obtain ⟨o, os, h, rfl, rfl⟩ := H.get
  exact h
theorem lrule_ok {v : Sv} (hv : VOk v) {r : Rl} (hr : r ∈ v.rs) : F__law_line_of_rule [.fr r.d] = some (.ok (.lst (r.ws.map .str)) [.fr r.d]) := by
  have h := hv.rs r hr
  obtain ⟨vs, hk, hc, hs, hl⟩ := h.kd
  have hw := rule_ws hv hr
  have fc := lw_ok (nmsOf v.rg vs) v.rg 40 3 r.c hc (by omega) (by have := h.sz; omega)
  have hcl := cw_len r.c
  have hsz := h.sz
  have hsl := h.sl
  have hll := h.ll
  have hrl := hv.rl
  have gs := gStr_n (n := r.src.length) (by omega)
  have H : FEv (F__law_line_of_rule [.fr r.d]) (@hq _ _ ⟨fun o os => o = .lst (r.ws.map .str) ∧ os = [.fr r.d]⟩) (fun _ _ => False) := by
    have de : r.d = .tup [stD r.st, .str r.kd, r.c.d, .tup (.str r.w :: r.src.map Sc.d), .tup (r.ln.map Ln.d), .str r.to] := rfl
    have ct : cutD (.str r.w :: r.src.map Sc.d) (some 1) none = r.src.map Sc.d := by rw [cutD_1]; rfl
    have lm : ((r.src.map Sc.d).length : Int) = (r.src.length : Int) := by rw [List.length_map]
    have p0 : r.pre.map D.str = [.str (PySem.Str.ofString "rule"), .str (stS r.st), .str r.kd] ++ r.c.cw.map D.str ++ [.str (PySem.Str.ofString "answer"), .str r.w, .str (nz (r.src.length : Int))] := map_app3 _ _ _
    have p1 : r.mid.map D.str = (r.pre ++ r.src.flatMap Sc.ws).map D.str ++ [.str (PySem.Str.ofString "turn")] := by unfold Rl.mid; rw [List.map_append]; rfl
    have p2 : r.ws.map D.str = (r.mid ++ r.ln.flatMap Ln.ws).map D.str ++ [.str (PySem.Str.ofString "next"), .str r.to] := by unfold Rl.ws Rl.body; rw [List.map_append]; rfl
    have z1 : 3 + (r.c.cw.map D.str).length ≤ sizeLine := by rw [List.length_map, sizeLine_eq]; omega
    have z2 : 3 + (r.c.cw.map D.str).length + 3 ≤ sizeLine := by rw [List.length_map, sizeLine_eq]; omega
    have z5 : (r.c.cw.map D.str).length + 1 + 1 + 1 + 3 ≤ sizeLine := by rw [List.length_map, sizeLine_eq]; omega
    have z6 : 1 + 1 + 1 + (r.c.cw.map D.str).length ≤ sizeLine := by rw [List.length_map, sizeLine_eq]; omega
    have hbl : (r.mid ++ r.ln.flatMap Ln.ws).length ≤ 200 := by
      have := hw.2.1
      unfold Rl.ws Rl.body at this
      rw [List.length_append] at this; omega
    have hml : (r.pre ++ r.src.flatMap Sc.ws).length ≤ 150 := by
      have := hw.2.2.2
      unfold Rl.mid at this
      rw [List.length_append] at this; omega
    have z3 : ((r.pre ++ r.src.flatMap Sc.ws).map D.str).length < sizeLine := by rw [List.length_map, sizeLine_eq]; omega
    have z4 : ((r.mid ++ r.ln.flatMap Ln.ws).map D.str).length + 2 ≤ sizeLine := by rw [List.length_map, sizeLine_eq]; omega
    have ix : ixN 3 1 = some 1 := by decide +kernel
    have lp0 := fun q0 => lr_loop0 q0 none (nmsOf v.rg vs) r.src hs r.pre (by have := hw.2.2.1; omega) (by omega)
    have lp1 := fun q0 q2 => lr_loop1 q0 q2 (nmsOf v.rg vs) r.ln hl r.mid (by have := hw.2.2.2; omega) (by omega)
    rw [p0] at lp0
    rw [p1] at lp1
    rw [p2]
    have out0 : ∀ (q0 : Option O) (fl : Fl) (e : Sl) (P : Prop), (fl = .next ∧ ∃ q2, e = [q0, some (.lst ((r.pre ++ r.src.flatMap Sc.ws).map .str)), q2, none]) → (∀ q2, fl = .next → e = [q0, some (.lst ((r.pre ++ r.src.flatMap Sc.ws).map .str)), q2, none] → P) → P := fun q0 fl e P ⟨h1, q, h2⟩ h => h q h1 h2
    have out1 : ∀ (q0 q2 : Option O) (fl : Fl) (e : Sl) (P : Prop), (fl = .next ∧ ∃ q3, e = [q0, some (.lst ((r.mid ++ r.ln.flatMap Ln.ws).map .str)), q2, q3]) → (∀ q3, fl = .next → e = [q0, some (.lst ((r.mid ++ r.ln.flatMap Ln.ws).map .str)), q2, q3] → P) → P := fun q0 q2 fl e P ⟨h1, q, h2⟩ h => h q h1 h2
    have stn : (r.st = none ∧ stS r.st = PySem.Str.ofString "-") ∨ ∃ z, r.st = some z ∧ stS r.st = z := by
      cases r.st with
      | none => exact .inl ⟨rfl, rfl⟩
      | some z => exact .inr ⟨z, rfl, rfl⟩
    rw [de]
    clear de h hk hc hs hl hw hcl hsz hsl hll hrl hbl hml p0 p1 p2 hv hr
    generalize (r.pre ++ r.src.flatMap Sc.ws).map D.str = W1 at *
    generalize (r.mid ++ r.ln.flatMap Ln.ws).map D.str = W2 at *
    generalize r.src.map Sc.d = SS at *
    generalize r.ln.map Ln.d = LS at *
    generalize r.c.cw.map D.str = CW at *
    generalize r.c.d = CD at *
    generalize nz (r.src.length : Int) = NZ at *
    generalize (r.src.length : Int) = NI at *
    unfold F__law_line_of_rule G__law_line_of_rule
    rcases stn with ⟨e1, e2⟩ | ⟨z, e1, e2⟩
    · rw [e2] at lp0
      rw [e1]
      have sd : stD none = .non := rfl
      rw [sd]
      have lp0 := lp0 (some (.fr (.tup [.non, .str r.kd, CD, .tup (.str r.w :: SS), .tup LS, .str r.to])))
      have out0 := out0 (some (.fr (.tup [.non, .str r.kd, CD, .tup (.str r.w :: SS), .tup LS, .str r.to])))
      have lp1 := lp1 (some (.fr (.tup [.non, .str r.kd, CD, .tup (.str r.w :: SS), .tup LS, .str r.to])))
      have out1 := out1 (some (.fr (.tup [.non, .str r.kd, CD, .tup (.str r.w :: SS), .tup LS, .str r.to])))
      clear e1 e2 sd
      simp only [List.cons_append, List.nil_append, List.append_assoc] at lp0
      walk_at "evd"
      refine Ev.mono lp0 ?_ (fun _ _ (h : False) => h.elim)
      intro fl e zz
      refine out0 fl e _ zz fun q3 h1 h2 => ?_
      subst h1 h2
      have lp1 := lp1 q3
      have out1 := out1 q3
      clear lp0 out0 zz fc gs lm ct z1 z2
      walk_at "evd"
      refine Ev.mono lp1 ?_ (fun _ _ (h : False) => h.elim)
      intro fl e zz
      refine out1 fl e _ zz fun q4 h1 h2 => ?_
      subst h1 h2
      clear lp1 out1 zz
      walk_at "evd"
      first | exact hqi ⟨rfl, rfl⟩ | done
    · rw [e2] at lp0
      rw [e1]
      have sd : stD (some z) = .str z := rfl
      rw [sd]
      have lp0 := lp0 (some (.fr (.tup [.str z, .str r.kd, CD, .tup (.str r.w :: SS), .tup LS, .str r.to])))
      have out0 := out0 (some (.fr (.tup [.str z, .str r.kd, CD, .tup (.str r.w :: SS), .tup LS, .str r.to])))
      have lp1 := lp1 (some (.fr (.tup [.str z, .str r.kd, CD, .tup (.str r.w :: SS), .tup LS, .str r.to])))
      have out1 := out1 (some (.fr (.tup [.str z, .str r.kd, CD, .tup (.str r.w :: SS), .tup LS, .str r.to])))
      clear e1 e2 sd
      simp only [List.cons_append, List.nil_append, List.append_assoc] at lp0
      walk_at "evd"
      refine Ev.mono lp0 ?_ (fun _ _ (h : False) => h.elim)
      intro fl e zz
      refine out0 fl e _ zz fun q3 h1 h2 => ?_
      subst h1 h2
      have lp1 := lp1 q3
      have out1 := out1 q3
      clear lp0 out0 zz fc gs lm ct z1 z2
      walk_at "evd"
      refine Ev.mono lp1 ?_ (fun _ _ (h : False) => h.elim)
      intro fl e zz
      refine out1 fl e _ zz fun q4 h1 h2 => ?_
      subst h1 h2
      clear lp1 out1 zz
      walk_at "evd"
      first | exact hqi ⟨rfl, rfl⟩ | done
  obtain ⟨o, os, h, rfl, rfl⟩ := H.get
  exact h
abbrev sNl : Str := PySem.Str.ofString "\n"
theorem nl_len : sNl.length = 1 := by decide +kernel
def kw (p : Str × List Str) : List Str := PySem.Str.ofString "request" :: p.1 :: p.2
def Sv.w1 (v : Sv) : List Str := PySem.Str.ofString "stations" :: v.st
def Sv.w2 (v : Sv) : List Str := PySem.Str.ofString "registers" :: v.rg
def Sv.lw (v : Sv) : List (List Str) := [v.w1, v.w2] ++ v.rq.map kw ++ v.rs.map Rl.ws
def jn (ws : List Str) : Str := Txt.join sSp ws
def Sv.text (v : Sv) : Str := Txt.join sNl (v.lw.map jn)
theorem lw_b {v : Sv} (h : VOk v) : ∀ ws ∈ v.lw, (∀ w ∈ ws, w.length ≤ 100) ∧ ws.length ≤ 200 := fun ws hw => by
  have nm : ∀ (z : Str) (zs : List Str), z.length ≤ 100 → (∀ y ∈ zs, y.length ≤ 100) → ∀ w ∈ z :: zs, w.length ≤ 100 := fun z zs h1 h2 w hw => (List.mem_cons.mp hw).elim (fun e => by rw [e]; exact h1) (h2 w)
  unfold Sv.lw at hw
  rcases List.mem_append.mp hw with hw | hw
  · rcases List.mem_append.mp hw with hw | hw
    · simp only [List.mem_cons, List.not_mem_nil, or_false] at hw
      rcases hw with hw | hw <;> rw [hw]
      · exact ⟨nm _ _ (by decide +kernel) fun y hy => by have := (h.st.nm y hy).2.2; omega, by show v.st.length + 1 ≤ 200; have := h.sl; omega⟩
      · exact ⟨nm _ _ (by decide +kernel) fun y hy => by have := (h.rg.nm y hy).2.2; omega, by show v.rg.length + 1 ≤ 200; have := h.rl; omega⟩
    · obtain ⟨p, hp, rfl⟩ := List.mem_map.mp hw
      have hk := h.rq.k p hp
      exact ⟨nm _ _ (by decide +kernel) (nm _ _ (by have := hk.1.2.2; omega) fun y hy => by have := (hk.2.1.nm y hy).2.2; omega), by show p.2.length + 1 + 1 ≤ 200; have := hk.2.2; omega⟩
  · obtain ⟨r, hr, rfl⟩ := List.mem_map.mp hw
    have := rule_ws h hr
    exact ⟨this.1, this.2.1⟩
theorem lw_j {v : Sv} (h : VOk v) {ws : List Str} (hw : ws ∈ v.lw) : gJoin [.str (PySem.Str.ofString " "), .lst (ws.map .str)] = some (sO (jn ws)) ∧ (jn ws).length ≤ 20200 := by
  have b := lw_b h ws hw
  exact ⟨gJoin_ok sSp ws 100 200 b.1 b.2 sp_len (by decide), join_len (m := 100) (k := 200) b.1 b.2 sp_len⟩
theorem lw_n {v : Sv} (h : VOk v) : v.lw.length ≤ 50 := by
  unfold Sv.lw
  have := h.rq.len; have := h.nl
  simp only [List.length_append, List.length_cons, List.length_nil, List.length_map]; omega
theorem text_j {v : Sv} (h : VOk v) : gJoin [.str (PySem.Str.ofString "\n"), .lst ((v.lw.map jn).map .str)] = some (sO v.text) := gJoin_ok sNl _ 20200 50 (fun w hw => by
  obtain ⟨ws, h1, rfl⟩ := List.mem_map.mp hw
  exact (lw_j h h1).2) (by rw [List.length_map]; exact lw_n h) nl_len (by decide)
theorem fld_ok (v : Sv) : prpV F_Service_p_stations (PySem.Str.ofString "Service") v.o = some (.lst (v.st.map .str)) ∧ prpV F_Service_p_registers (PySem.Str.ofString "Service") v.o = some (.lst (v.rg.map .str)) ∧ prpV F_Service_p_requests (PySem.Str.ofString "Service") v.o = some (.lst (v.rq.map ktD)) := by
  have a1 : ¬ PySem.Str.ofString "_stations" = PySem.Str.ofString "_registers" := by decide +kernel
  have a2 : ¬ PySem.Str.ofString "_stations" = PySem.Str.ofString "_requests" := by decide +kernel
  have a3 : ¬ PySem.Str.ofString "_registers" = PySem.Str.ofString "_requests" := by decide +kernel
  refine ⟨prpV_i (os := [.fr v.o]) ?_, prpV_i (os := [.fr v.o]) ?_, prpV_i (os := [.fr v.o]) ?_⟩
  · have h : gFld (PySem.Str.ofString "Service") (PySem.Str.ofString "_stations") [v.o] = some (.fr (.lst (v.st.map .str))) := gFld_e (by unfold svcN; simp [getF])
    show F_Service_p_stations [.fr v.o] = _
    unfold F_Service_p_stations G_Service_p_stations
    generalize v.o = s at *
    clear a1 a2 a3
    walk_at "evd"
  · have h : gFld (PySem.Str.ofString "Service") (PySem.Str.ofString "_registers") [v.o] = some (.fr (.lst (v.rg.map .str))) := gFld_e (by unfold svcN; simp [getF, a1])
    show F_Service_p_registers [.fr v.o] = _
    unfold F_Service_p_registers G_Service_p_registers
    generalize v.o = s at *
    clear a1 a2 a3
    walk_at "evd"
  · have h : gFld (PySem.Str.ofString "Service") (PySem.Str.ofString "_requests") [v.o] = some (.fr (.lst (v.rq.map ktD))) := gFld_e (by unfold svcN; simp [getF, a2, a3])
    show F_Service_p_requests [.fr v.o] = _
    unfold F_Service_p_requests G_Service_p_requests
    generalize v.o = s at *
    clear a1 a2 a3
    walk_at "evd"
theorem fsvc_ok {v : Sv} (h : VOk v) : F_format_service [.fr v.o] = some (.ok (sO v.text) [.fr v.o]) := by
  have hm : ∀ ws, ws ∈ [v.w1, v.w2] ++ v.rq.map kw ++ v.rs.map Rl.ws → ws ∈ v.lw := fun ws h => h
  have j1 : gJoin [.str (PySem.Str.ofString " "), .lst (.str (PySem.Str.ofString "stations") :: v.st.map .str)] = some (sO (jn v.w1)) := (lw_j h (hm v.w1 (by simp))).1
  have j2 : gJoin [.str (PySem.Str.ofString " "), .lst (.str (PySem.Str.ofString "registers") :: v.rg.map .str)] = some (sO (jn v.w2)) := (lw_j h (hm v.w2 (by simp))).1
  have c1 : ∀ q0 q1 q3, lcL [2] (.n 2) cYes C_format_service_0 (v.rq.map ktD) [] [q0, q1, none, q3] = some (v.rq.map (fun p => D.str (jn (kw p))), [q0, q1, none, q3]) := fun q0 q1 q3 => lc_map ktD _ v.rq (by have := h.rq.len; omega) fun p hp => ⟨_, rfl, by
    have jj : gJoin [.str (PySem.Str.ofString " "), .lst (.str (PySem.Str.ofString "request") :: .str p.1 :: p.2.map .str)] = some (sO (jn (kw p))) := (lw_j h (hm (kw p) (List.mem_append_left _ (List.mem_append_right _ (List.mem_map.mpr ⟨p, hp, rfl⟩))))).1
    have jt : gJoinT [.str (PySem.Str.ofString " "), .tup (.str (PySem.Str.ofString "request") :: .str p.1 :: p.2.map .str)] = some (sO (jn (kw p))) := jj
    have ke : ktD p = .tup (.str p.1 :: p.2.map .str) := rfl
    have lz : 1 + ((p.2.map D.str).length + 1) ≤ sizeLine := by have := (h.rq.k p hp).2.2; rw [List.length_map, sizeLine_eq]; omega
    rw [ke]
    generalize p.2.map D.str = PL at *
    generalize jn (kw p) = J at *
    unfold C_format_service_0
    clear hp h hm j1 j2 jj ke
    walk_at "evd"⟩
  have c2 : ∀ q0 q1 q2, lcL [3] (.n 3) cYes C_format_service_1 (v.rs.map Rl.d) [] [q0, q1, q2, none] = some (v.rs.map (fun r => D.str (jn r.ws)), [q0, q1, q2, none]) := fun q0 q1 q2 => lc_map Rl.d _ v.rs (by have := h.nl; omega) fun r hr => ⟨_, rfl, by
    have jj : F_format_rule [.fr r.d] = some (.ok (sO (jn r.ws)) [.fr r.d]) := frule_ok h hr
    generalize r.d = rd at *
    generalize jn r.ws = J at *
    unfold C_format_service_1
    clear hr h hm j1 j2 c1
    walk_at "evd"⟩
  have tj := text_j h
  have e : (v.lw.map jn).map D.str = .str (jn v.w1) :: .str (jn v.w2) :: (v.rq.map (fun p => D.str (jn (kw p))) ++ v.rs.map (fun r => D.str (jn r.ws))) := by
    unfold Sv.lw
    simp only [List.map_append, List.map_map, List.map_cons, List.map_nil, List.cons_append, List.nil_append]; rfl
  rw [e] at tj
  have f := fld_ok v
  have f1 := f.1
  have f2 := f.2.1
  have f3 := f.2.2
  have f4 := rules_ok v
  have p1 := @ePrp_a
  have p2 := @prpR_s
  have l1 : 1 + (v.st.map D.str).length ≤ sizeLine := by have := h.sl; rw [List.length_map, sizeLine_eq]; omega
  have l2 : 1 + (v.rg.map D.str).length ≤ sizeLine := by have := h.rl; rw [List.length_map, sizeLine_eq]; omega
  have hq1 := h.rq.len
  have hn1 := h.nl
  have l3 : 2 + (v.rq.map (fun p => D.str (jn (kw p)))).length ≤ sizeLine := by rw [List.length_map, sizeLine_eq]; omega
  have l4 : (v.rq.map (fun p => D.str (jn (kw p)))).length + 1 + 1 + (v.rs.map (fun r => D.str (jn r.ws))).length ≤ sizeLine := by rw [List.length_map, List.length_map, sizeLine_eq]; omega
  have l5 : 1 + 1 + (v.rq.map (fun p => D.str (jn (kw p)))).length ≤ sizeLine := by rw [List.length_map, sizeLine_eq]; omega
  generalize v.rq.map (fun p => D.str (jn (kw p))) = A1 at *
  generalize v.rs.map (fun r => D.str (jn r.ws)) = A2 at *
  generalize v.rq.map ktD = A3 at *
  generalize v.rs.map Rl.d = A4 at *
  generalize v.st.map D.str = A5 at *
  generalize v.rg.map D.str = A6 at *
  generalize v.text = TX at *
  generalize jn v.w1 = J1 at *
  generalize jn v.w2 = J2 at *
  generalize v.o = VO at *
  unfold F_format_service G_format_service
  clear h hm e f hq1 hn1
  walk_at "evd"
theorem gEq_self {d : D} (h : shp d = true) : gEq [d, d] = some (bO true) := by
  have e : D.eqv d d = true := PySem.SeqAt.eqv_refl _ (by unfold shp SeqAt.shaped at h; rw [Bool.and_eq_true] at h; exact h.1)
  cases d with
  | non => rw [gEq_n h, e]
  | bl b => rw [gEq_b]; simp
  | int i => rw [gEq_i]; simp
  | str z => rw [gEq_z]; simp
  | lst ds => rw [gEq_l h h, e]
  | tup ds => rw [gEq_t h h, e]
  | scr ns => rw [gEq_s h h, e]
  | dct ks xs => show (if (shp (.dct ks xs) && shp (.dct ks xs)) = true then some (bO (D.eqv (.dct ks xs) (.dct ks xs))) else none) = _; rw [h, e]; rfl
  | ins c ks xs => show (if (shp (.ins c ks xs) && shp (.ins c ks xs)) = true then some (bO (D.eqv (.ins c ks xs) (.ins c ks xs))) else none) = _; rw [h, e]; rfl
  | opq => show (if (shp .opq && shp .opq) = true then some (bO (D.eqv .opq .opq)) else none) = _; rw [h, e]; rfl
def LL (ws : List Str) : D := .lst (ws.map .str)
theorem lines_ok {v : Sv} (h : VOk v) : F__law_lines [.fr v.d] = some (.ok (.lst (v.lw.map LL)) [.fr v.d]) := by
  have c1 : ∀ q0 q1 q3, lcL [2] (.n 2) cYes C__law_lines_0 (v.rq.map ktD) [] [q0, q1, none, q3] = some (v.rq.map (fun p => LL (kw p)), [q0, q1, none, q3]) := fun q0 q1 q3 => lc_map ktD _ v.rq (by have := h.rq.len; omega) fun p hp => ⟨_, rfl, by
    have ke : ktD p = .tup (.str p.1 :: p.2.map .str) := rfl
    have kl : LL (kw p) = .lst (.str (PySem.Str.ofString "request") :: .str p.1 :: p.2.map .str) := rfl
    have lz : 1 + ((p.2.map D.str).length + 1) ≤ sizeLine := by have := (h.rq.k p hp).2.2; rw [List.length_map, sizeLine_eq]; omega
    rw [ke, kl]
    generalize p.2.map D.str = PL at *
    unfold C__law_lines_0
    clear hp h ke kl
    walk_at "evd"⟩
  have c2 : ∀ q0 q1 q2, lcL [3] (.n 3) cYes C__law_lines_1 (v.rs.map Rl.d) [] [q0, q1, q2, none] = some (v.rs.map (fun r => LL r.ws), [q0, q1, q2, none]) := fun q0 q1 q2 => lc_map Rl.d _ v.rs (by have := h.nl; omega) fun r hr => ⟨_, rfl, by
    have jj : F__law_line_of_rule [.fr r.d] = some (.ok (.lst (r.ws.map .str)) [.fr r.d]) := lrule_ok h hr
    have kl : LL r.ws = .lst (r.ws.map .str) := rfl
    rw [kl]
    generalize r.d = rd at *
    generalize r.ws.map D.str = J at *
    unfold C__law_lines_1
    clear hr h c1 kl
    walk_at "evd"⟩
  have e : v.lw.map LL = .lst (.str (PySem.Str.ofString "stations") :: v.st.map .str) :: .lst (.str (PySem.Str.ofString "registers") :: v.rg.map .str) :: (v.rq.map (fun p => LL (kw p)) ++ v.rs.map (fun r => LL r.ws)) := by
    unfold Sv.lw
    simp only [List.map_append, List.map_map, List.map_cons, List.map_nil, List.cons_append, List.nil_append]; rfl
  have de : v.d = .tup [.lst (v.st.map .str), .lst (v.rg.map .str), .lst (v.rq.map ktD), .lst (v.rs.map Rl.d)] := rfl
  have l1 : 1 + (v.st.map D.str).length ≤ sizeLine := by have := h.sl; rw [List.length_map, sizeLine_eq]; omega
  have l2 : 1 + (v.rg.map D.str).length ≤ sizeLine := by have := h.rl; rw [List.length_map, sizeLine_eq]; omega
  have hq1 := h.rq.len
  have hn1 := h.nl
  have l3 : 2 + (v.rq.map (fun p => LL (kw p))).length ≤ sizeLine := by rw [List.length_map, sizeLine_eq]; omega
  have l4 : (v.rq.map (fun p => LL (kw p))).length + 1 + 1 + (v.rs.map (fun r => LL r.ws)).length ≤ sizeLine := by rw [List.length_map, List.length_map, sizeLine_eq]; omega
  have l5 : 1 + 1 + (v.rq.map (fun p => LL (kw p))).length ≤ sizeLine := by rw [List.length_map, sizeLine_eq]; omega
  rw [e, de]
  generalize v.rq.map (fun p => LL (kw p)) = A1 at *
  generalize v.rs.map (fun r => LL r.ws) = A2 at *
  generalize v.rq.map ktD = A3 at *
  generalize v.rs.map Rl.d = A4 at *
  generalize v.st.map D.str = A5 at *
  generalize v.rg.map D.str = A6 at *
  unfold F__law_lines G__law_lines
  clear h e de hq1 hn1
  walk_at "evd"
theorem textof_ok {v : Sv} (h : VOk v) : F__law_text_of [.fr (.lst (v.lw.map LL))] = some (.ok (sO v.text) [.fr (.lst (v.lw.map LL))]) := by
  have c1 : ∀ q0, lcL [1] (.n 1) cYes C__law_text_of_0 (v.lw.map LL) [] [q0, none] = some (v.lw.map (fun ws => D.str (jn ws)), [q0, none]) := fun q0 => lc_map LL _ v.lw (by have := lw_n h; omega) fun ws hw => ⟨_, rfl, by
    have j : gJoin [.str (PySem.Str.ofString " "), .lst (ws.map .str)] = some (sO (jn ws)) := (lw_j h hw).1
    have kl : LL ws = .lst (ws.map .str) := rfl
    rw [kl]
    generalize ws.map D.str = W at *
    generalize jn ws = J at *
    unfold C__law_text_of_0
    clear hw h kl
    walk_at "evd"⟩
  have tj := text_j h
  rw [List.map_map] at tj
  have tj' : gJoin [.str (PySem.Str.ofString "\n"), .lst (v.lw.map (fun ws => D.str (jn ws)))] = some (sO v.text) := tj
  clear tj
  generalize v.lw.map (fun ws => D.str (jn ws)) = A at *
  generalize v.lw.map LL = B at *
  generalize v.text = T at *
  unfold F__law_text_of G__law_text_of
  clear h
  walk_at "evd"
theorem rl_shp {v : Sv} (hv : VOk v) {r : Rl} (hr : r ∈ v.rs) : Shp 6 r.d := by
  have h := hv.rs r hr
  obtain ⟨vs, hk, hc, hs, hl⟩ := h.kd
  have hN : ∀ z ∈ nmsOf v.rg vs, LtrZ z := nms_ltr (fun z hz => (hv.rg.nm z hz).1) (fun z hz => ((hv.rq.k _ hk).2.1.nm z hz).1)
  have hR : ∀ z ∈ v.rg, LtrZ z := fun z hz => (hv.rg.nm z hz).1
  have a1 : Shp 2 r.ans := shp_tup fun d hd => by
    rcases List.mem_cons.mp hd with hd | hd
    · rw [hd]; exact (shp_str h.w.1.ok).mono (by omega)
    · obtain ⟨s, h1, rfl⟩ := List.mem_map.mp hd
      exact (sc_shp hN (hs s h1)).1
  have a2 : Shp 2 r.trn := shp_tup fun d hd => by
    obtain ⟨l, h1, rfl⟩ := List.mem_map.mp hd
    cases l with
    | keep => exact shp_tup fun d hd => by rw [List.mem_singleton.mp hd]; exact shp_str (by decide +kernel)
    | clear => exact shp_tup fun d hd => by rw [List.mem_singleton.mp hd]; exact shp_str (by decide +kernel)
    | src s => exact (sc_shp hN (hl _ h1)).1
  have a3 := (cok_shp hN hR hc).1
  have a4 : Shp 0 (stD r.st) := by
    rcases h.s with e | ⟨z, zm, e, _⟩ <;> rw [e]
    · exact shp_non
    · exact shp_str (hv.st.nm z zm).1.ok
  show Shp 6 (.tup [stD r.st, .str r.kd, r.c.d, r.ans, r.trn, .str r.to])
  refine shp_tup fun d hd => ?_
  simp only [List.mem_cons, List.not_mem_nil, or_false] at hd
  rcases hd with hd | hd | hd | hd | hd | hd <;> rw [hd]
  · exact a4.mono (by omega)
  · exact (shp_str (hv.rq.k _ hk).1.1.ok).mono (by omega)
  · exact a3.mono (by omega)
  · exact a1.mono (by omega)
  · exact a2.mono (by omega)
  · exact (shp_str (hv.st.nm r.to h.to).1.ok).mono (by omega)
theorem law_true (ns : List Int) (hl : ns.length ≤ 63) : ∃ os, F_law [.fr (.scr ns)] = some (.ok (bO true) os) := by
  obtain ⟨k, hk⟩ := deck_ok ns
  have H : FEv (F_law [.fr (.scr ns)]) (@hq _ _ ⟨fun o os => o = bO true⟩) (fun _ _ => False) := by
    obtain ⟨v, k', s1, hv⟩ := dservice_ex k
    have mk := make_ok hv
    have ln := lines_ok hv
    have tx := textof_ok hv
    have fs := fsvc_ok hv
    have g1 := gEq_self (d := .lst (v.rs.map Rl.d)) ((shp_lst (k := 6) fun d hd => let ⟨r, hr, e⟩ := List.mem_map.mp hd; e ▸ rl_shp hv hr).shp (by omega))
    have g2 := gEq_self (d := .lst (v.st.map .str)) ((shp_lst (k := 0) fun d hd => let ⟨z, hz, e⟩ := List.mem_map.mp hd; e ▸ shp_str (hv.st.nm z hz).1.ok).shp (by omega))
    have r1 := rules_ok v
    have r2 := (fld_ok v).1
    have p1 := @ePrp_a
    have p2 := @prpR_s
    have ri : inR 2 = true := by decide
    have de : v.d = .tup [.lst (v.st.map .str), .lst (v.rg.map .str), .lst (v.rq.map ktD), .lst (v.rs.map Rl.d)] := rfl
    rw [de] at s1 ln
    generalize v.rq.map ktD = A3 at *
    generalize v.rs.map Rl.d = A4 at *
    generalize v.st.map D.str = A5 at *
    generalize v.rg.map D.str = A6 at *
    generalize v.lw.map LL = LW at *
    generalize v.text = TX at *
    generalize v.o = VO at *
    have loop : ∀ a0 a1 a2, Ev (forL (.n 5) B_law_0 (rngD 0 2) [a0, a1, a2, some (.fr VO), some (sO TX), none, none]) (@hq _ _ ⟨fun fl e => fl = .next ∧ ∃ q5 q6, e = [a0, a1, a2, some (.fr VO), some (sO TX), q5, q6]⟩) (fun _ _ => False) := fun a0 a1 a2 => by
      refine Ev_forL (fun i e => @Dn.hb _ ⟨fun e => ∃ q5 q6, e = [a0, a1, a2, some (.fr VO), some (sO TX), q5, q6]⟩ e) _ (rngD 0 2) _ (hbi ⟨_, _, rfl⟩) ?_ (fun e ⟨q, r, h⟩ => hqi ⟨rfl, q, r, h⟩)
      rintro i d e hd ⟨q5, q6, rfl⟩
      obtain ⟨rfl, hi⟩ := rng0_get hd
      refine ⟨_, rfl, ?_⟩
      unfold B_law_0
      clear hd hi hk s1 mk ln tx g1 g2 r1 r2 p1 p2 ri de hv
      walk_at "evd"
      exact hbi ⟨_, _, rfl⟩
    have lp := loop (some (.fr (.scr ns))) (some (dk k')) (some (.fr (.tup [.lst A5, .lst A6, .lst A3, .lst A4])))
    have out : ∀ (fl : Fl) (e : Sl) (P : Prop), (fl = .next ∧ ∃ q5 q6, e = [some (.fr (.scr ns)), some (dk k'), some (.fr (.tup [.lst A5, .lst A6, .lst A3, .lst A4])), some (.fr VO), some (sO TX), q5, q6]) → (∀ q5 q6, fl = .next → e = [some (.fr (.scr ns)), some (dk k'), some (.fr (.tup [.lst A5, .lst A6, .lst A3, .lst A4])), some (.fr VO), some (sO TX), q5, q6] → P) → P := fun fl e P ⟨h1, q, r, h2⟩ h => h q r h1 h2
    unfold F_law G_law
    clear loop de hv
    walk_at "evd"
    refine Ev.mono lp ?_ (fun _ _ (h : False) => h.elim)
    intro fl e zz
    refine out fl e _ zz fun q5 q6 h1 h2 => ?_
    subst h1 h2
    clear lp out zz
    walk_at "evd"
    first | exact hqi rfl | done
  obtain ⟨o, os, h, rfl⟩ := H.get
  exact ⟨os, h⟩
theorem all_mk {l : PySem.W.OpenLaw} {w : World} {K : PySem.W.Frag} {h : Heap} {mg : Str → Option Value} {fa f1 f2 f3 f4 f5 f6 f7 f8 f9 f10 f11 f12 f13 f14 f15 f16 f17 f18 f19 f20 f21 f22 f23 f24 f25 f26 f27 f28 f29 f30 f31 f32 f33 f34 f35 f36 f37 f38 f39 f40 f41 f42 f43 f44 : Addr} (X : K.In h) (G : h.Ns mainGlobals mg) (hfa : mg "law" = some (.ref fa))
    {od1 an1 od2 an2 od3 an3 od4 an4 od5 an5 od6 an6 od7 an7 od8 an8 od9 an9 od10 an10 od11 an11 od12 an12 od13 an13 od14 an14 od15 an15 od16 an16 od17 an17 od18 an18 od19 an19 od20 an20 od21 an21 od22 an22 od23 an23 od24 an24 od25 an25 od26 an26 od27 an27 od28 an28 od29 an29 od30 an30 od31 an31 od32 an32 od33 an33 od34 an34 od35 an35 od36 an36 od37 an37 od38 an38 od39 an39 od40 an40 od41 an41 od42 an42 od43 an43 od44 an44 : Option Addr} {sl1 sl2 sl3 sl4 sl5 sl6 sl7 sl8 sl9 sl10 sl11 sl12 sl13 sl14 sl15 sl16 sl17 sl18 sl19 sl20 sl21 sl22 sl23 sl24 sl25 sl26 sl27 sl28 sl29 sl30 sl31 sl32 sl33 sl34 sl35 sl36 sl37 sl38 sl39 sl40 sl41 sl42 sl43 sl44 : Array (Option Value)} {oc1 kV1 dc1 pm1 cd1 ct1 oc2 kV2 dc2 pm2 cd2 ct2 oc3 kV3 dc3 pm3 cd3 ct3 oc4 kV4 dc4 pm4 cd4 ct4 oc5 kV5 dc5 pm5 cd5 ct5 oc6 kV6 dc6 pm6 cd6 ct6 oc7 kV7 dc7 pm7 cd7 ct7 oc8 kV8 dc8 pm8 cd8 ct8 oc9 kV9 dc9 pm9 cd9 ct9 oc10 kV10 dc10 pm10 cd10 ct10 oc11 kV11 dc11 pm11 cd11 ct11 oc12 kV12 dc12 pm12 cd12 ct12 oc13 kV13 dc13 pm13 cd13 ct13 oc14 kV14 dc14 pm14 cd14 ct14 oc15 kV15 dc15 pm15 cd15 ct15 oc16 kV16 dc16 pm16 cd16 ct16 oc17 kV17 dc17 pm17 cd17 ct17 oc18 kV18 dc18 pm18 cd18 ct18 oc19 kV19 dc19 pm19 cd19 ct19 oc20 kV20 dc20 pm20 cd20 ct20 oc21 kV21 dc21 pm21 cd21 ct21 oc22 kV22 dc22 pm22 cd22 ct22 oc23 kV23 dc23 pm23 cd23 ct23 oc24 kV24 dc24 pm24 cd24 ct24 oc25 kV25 dc25 pm25 cd25 ct25 oc26 kV26 dc26 pm26 cd26 ct26 oc27 kV27 dc27 pm27 cd27 ct27 oc28 kV28 dc28 pm28 cd28 ct28 oc29 kV29 dc29 pm29 cd29 ct29 oc30 kV30 dc30 pm30 cd30 ct30 oc31 kV31 dc31 pm31 cd31 ct31 oc32 kV32 dc32 pm32 cd32 ct32 oc33 kV33 dc33 pm33 cd33 ct33 oc34 kV34 dc34 pm34 cd34 ct34 oc35 kV35 dc35 pm35 cd35 ct35 oc36 kV36 dc36 pm36 cd36 ct36 oc37 kV37 dc37 pm37 cd37 ct37 oc38 kV38 dc38 pm38 cd38 ct38 oc39 kV39 dc39 pm39 cd39 ct39 oc40 kV40 dc40 pm40 cd40 ct40 oc41 kV41 dc41 pm41 cd41 ct41 oc42 kV42 dc42 pm42 cd42 ct42 oc43 kV43 dc43 pm43 cd43 ct43 oc44 kV44 dc44 pm44 cd44 ct44 : Value}
    {t_NAME_MOST t_LETTERS t_VALUES_MOST t_KINDS_MOST t_SIGNS_MOST t_STARS_MOST t_DEPTH_MOST t_NODES_MOST t_TEXT_MOST t_SOURCES_MOST t_STATIONS_MOST t_REGISTERS_MOST t_RULES_MOST : Tok}
    {C_Service : Addr}
    {p39 : Addr} {r39 : List Value}
    {p40 : Addr} {r40 : List Value}
    {p41 : Addr} {r41 : List Value}
    {p42 : Addr} {r42 : List Value}
    {T16 : Addr} {ddT16 : Option Addr} {nT16 : Nat} {slT16 : Array (Option Value)}
    {U16_0 : Addr} {ddU16_0 : Option Addr} {nU16_0 : Nat} {slU16_0 : Array (Option Value)}
    {C_TalkError N_TalkError : Addr} {nm_TalkError qn_TalkError : Str} {bs_TalkError sub_TalkError : List Value} {sn_TalkError : List Str} {ab_TalkError : Bool} {col_TalkError : Option Bool} {dd_TalkError : Option Addr} {m0_TalkError m1_TalkError m2_TalkError m3_TalkError m5_TalkError : Option Value}
    {fI_TalkError T_TalkError : Addr} {oi_TalkError kv_TalkError dc_TalkError pm_TalkError cd_TalkError ct_TalkError : Value} {oo_TalkError an_TalkError ddT_TalkError : Option Addr} {nT_TalkError : Nat} {sl_TalkError slT_TalkError : Array (Option Value)}
    {C_BadPattern N_BadPattern : Addr} {nm_BadPattern qn_BadPattern : Str} {bs_BadPattern sub_BadPattern : List Value} {sn_BadPattern : List Str} {ab_BadPattern : Bool} {col_BadPattern : Option Bool} {dd_BadPattern : Option Addr} {m0_BadPattern m1_BadPattern m2_BadPattern m3_BadPattern m5_BadPattern : Option Value}
    {fI_BadPattern T_BadPattern : Addr} {oi_BadPattern kv_BadPattern dc_BadPattern pm_BadPattern cd_BadPattern ct_BadPattern : Value} {oo_BadPattern an_BadPattern ddT_BadPattern : Option Addr} {nT_BadPattern : Nat} {sl_BadPattern slT_BadPattern : Array (Option Value)}
    {C_BadKinds N_BadKinds : Addr} {nm_BadKinds qn_BadKinds : Str} {bs_BadKinds sub_BadKinds : List Value} {sn_BadKinds : List Str} {ab_BadKinds : Bool} {col_BadKinds : Option Bool} {dd_BadKinds : Option Addr} {m0_BadKinds m1_BadKinds m2_BadKinds m3_BadKinds m5_BadKinds : Option Value}
    {fI_BadKinds T_BadKinds : Addr} {oi_BadKinds kv_BadKinds dc_BadKinds pm_BadKinds cd_BadKinds ct_BadKinds : Value} {oo_BadKinds an_BadKinds ddT_BadKinds : Option Addr} {nT_BadKinds : Nat} {sl_BadKinds slT_BadKinds : Array (Option Value)}
    {C_BadCondition N_BadCondition : Addr} {nm_BadCondition qn_BadCondition : Str} {bs_BadCondition sub_BadCondition : List Value} {sn_BadCondition : List Str} {ab_BadCondition : Bool} {col_BadCondition : Option Bool} {dd_BadCondition : Option Addr} {m0_BadCondition m1_BadCondition m2_BadCondition m3_BadCondition m5_BadCondition : Option Value}
    {fI_BadCondition T_BadCondition : Addr} {oi_BadCondition kv_BadCondition dc_BadCondition pm_BadCondition cd_BadCondition ct_BadCondition : Value} {oo_BadCondition an_BadCondition ddT_BadCondition : Option Addr} {nT_BadCondition : Nat} {sl_BadCondition slT_BadCondition : Array (Option Value)}
    {C_UnknownName N_UnknownName : Addr} {nm_UnknownName qn_UnknownName : Str} {bs_UnknownName sub_UnknownName : List Value} {sn_UnknownName : List Str} {ab_UnknownName : Bool} {col_UnknownName : Option Bool} {dd_UnknownName : Option Addr} {m0_UnknownName m1_UnknownName m2_UnknownName m3_UnknownName m5_UnknownName : Option Value}
    {fI_UnknownName T_UnknownName : Addr} {oi_UnknownName kv_UnknownName dc_UnknownName pm_UnknownName cd_UnknownName ct_UnknownName : Value} {oo_UnknownName an_UnknownName ddT_UnknownName : Option Addr} {nT_UnknownName : Nat} {sl_UnknownName slT_UnknownName : Array (Option Value)}
    {C_UnknownStation N_UnknownStation : Addr} {nm_UnknownStation qn_UnknownStation : Str} {bs_UnknownStation sub_UnknownStation : List Value} {sn_UnknownStation : List Str} {ab_UnknownStation : Bool} {col_UnknownStation : Option Bool} {dd_UnknownStation : Option Addr} {m0_UnknownStation m1_UnknownStation m2_UnknownStation m3_UnknownStation m5_UnknownStation : Option Value}
    {fI_UnknownStation T_UnknownStation : Addr} {oi_UnknownStation kv_UnknownStation dc_UnknownStation pm_UnknownStation cd_UnknownStation ct_UnknownStation : Value} {oo_UnknownStation an_UnknownStation ddT_UnknownStation : Option Addr} {nT_UnknownStation : Nat} {sl_UnknownStation slT_UnknownStation : Array (Option Value)}
    {C_UnknownRequest N_UnknownRequest : Addr} {nm_UnknownRequest qn_UnknownRequest : Str} {bs_UnknownRequest sub_UnknownRequest : List Value} {sn_UnknownRequest : List Str} {ab_UnknownRequest : Bool} {col_UnknownRequest : Option Bool} {dd_UnknownRequest : Option Addr} {m0_UnknownRequest m1_UnknownRequest m2_UnknownRequest m3_UnknownRequest m5_UnknownRequest : Option Value}
    {fI_UnknownRequest T_UnknownRequest : Addr} {oi_UnknownRequest kv_UnknownRequest dc_UnknownRequest pm_UnknownRequest cd_UnknownRequest ct_UnknownRequest : Value} {oo_UnknownRequest an_UnknownRequest ddT_UnknownRequest : Option Addr} {nT_UnknownRequest : Nat} {sl_UnknownRequest slT_UnknownRequest : Array (Option Value)}
    {C_BadRule N_BadRule : Addr} {nm_BadRule qn_BadRule : Str} {bs_BadRule sub_BadRule : List Value} {sn_BadRule : List Str} {ab_BadRule : Bool} {col_BadRule : Option Bool} {dd_BadRule : Option Addr} {m0_BadRule m1_BadRule m2_BadRule m3_BadRule m5_BadRule : Option Value}
    {fI_BadRule T_BadRule : Addr} {oi_BadRule kv_BadRule dc_BadRule pm_BadRule cd_BadRule ct_BadRule : Value} {oo_BadRule an_BadRule ddT_BadRule : Option Addr} {nT_BadRule : Nat} {sl_BadRule slT_BadRule : Array (Option Value)}
    {C_BadSource N_BadSource : Addr} {nm_BadSource qn_BadSource : Str} {bs_BadSource sub_BadSource : List Value} {sn_BadSource : List Str} {ab_BadSource : Bool} {col_BadSource : Option Bool} {dd_BadSource : Option Addr} {m0_BadSource m1_BadSource m2_BadSource m3_BadSource m5_BadSource : Option Value}
    {fI_BadSource T_BadSource : Addr} {oi_BadSource kv_BadSource dc_BadSource pm_BadSource cd_BadSource ct_BadSource : Value} {oo_BadSource an_BadSource ddT_BadSource : Option Addr} {nT_BadSource : Nat} {sl_BadSource slT_BadSource : Array (Option Value)}
    {C_BadCount N_BadCount : Addr} {nm_BadCount qn_BadCount : Str} {bs_BadCount sub_BadCount : List Value} {sn_BadCount : List Str} {ab_BadCount : Bool} {col_BadCount : Option Bool} {dd_BadCount : Option Addr} {m0_BadCount m1_BadCount m2_BadCount m3_BadCount m5_BadCount : Option Value}
    {fI_BadCount T_BadCount : Addr} {oi_BadCount kv_BadCount dc_BadCount pm_BadCount cd_BadCount ct_BadCount : Value} {oo_BadCount an_BadCount ddT_BadCount : Option Addr} {nT_BadCount : Nat} {sl_BadCount slT_BadCount : Array (Option Value)}
    {C_BadName N_BadName : Addr} {nm_BadName qn_BadName : Str} {bs_BadName sub_BadName : List Value} {sn_BadName : List Str} {ab_BadName : Bool} {col_BadName : Option Bool} {dd_BadName : Option Addr} {m0_BadName m1_BadName m2_BadName m3_BadName m5_BadName : Option Value}
    {fI_BadName T_BadName : Addr} {oi_BadName kv_BadName dc_BadName pm_BadName cd_BadName ct_BadName : Value} {oo_BadName an_BadName ddT_BadName : Option Addr} {nT_BadName : Nat} {sl_BadName slT_BadName : Array (Option Value)}
    {C_DuplicateName N_DuplicateName : Addr} {nm_DuplicateName qn_DuplicateName : Str} {bs_DuplicateName sub_DuplicateName : List Value} {sn_DuplicateName : List Str} {ab_DuplicateName : Bool} {col_DuplicateName : Option Bool} {dd_DuplicateName : Option Addr} {m0_DuplicateName m1_DuplicateName m2_DuplicateName m3_DuplicateName m5_DuplicateName : Option Value}
    {fI_DuplicateName T_DuplicateName : Addr} {oi_DuplicateName kv_DuplicateName dc_DuplicateName pm_DuplicateName cd_DuplicateName ct_DuplicateName : Value} {oo_DuplicateName an_DuplicateName ddT_DuplicateName : Option Addr} {nT_DuplicateName : Nat} {sl_DuplicateName slT_DuplicateName : Array (Option Value)}
    {r_LENGTHS : Addr} {es_LENGTHS : Array DictEntry} {nn_LENGTHS : Nat}
    (A_Service : PySem.W.nsIn K mainGlobals "Service" = some (some (.ref C_Service))) (pg_Service : PySem.W.plainGet K C_Service Str.empty = true) (hd_Service : PySem.W.hasDictIn K C_Service = true) (po_Service : PySem.W.plainOver K C_Service = true) (sa_Service : PySem.W.findIn K (.ref C_Service) "__setattr__" = some (some (.builtin "object.__setattr__"))) (mi_Service : PySem.W.makesIn K C_Service = true) (kc_Service : PySem.W.keepIn K (.ref C_Service) = true)
    (n0_Service : PySem.W.findIn K (.ref C_Service) "_registers" = some none)
    (n1_Service : PySem.W.findIn K (.ref C_Service) "_requests" = some none)
    (n2_Service : PySem.W.findIn K (.ref C_Service) "_rules" = some none)
    (n3_Service : PySem.W.findIn K (.ref C_Service) "_stations" = some none)
    (a1 : PySem.W.nsIn K mainGlobals "_law_deck" = some (some (.ref f1))) (l1 : K.lookup f1 = some ⟨oc1, od1, .func (PySem.W.fnOf "_law_deck" "_law_deck" (defArgs s__law_deck) (defBody s__law_deck) (defScope s__law_deck) .none kV1 dc1 pm1 an1 cd1 ct1), sl1⟩) (c1 : PySem.W.codeIn K cd1 "_law_deck" = true) (k1 : PySem.W.keepIn K (.ref f1) = true)
    (a2 : PySem.W.nsIn K mainGlobals "_law_draw" = some (some (.ref f2))) (l2 : K.lookup f2 = some ⟨oc2, od2, .func (PySem.W.fnOf "_law_draw" "_law_draw" (defArgs s__law_draw) (defBody s__law_draw) (defScope s__law_draw) .none kV2 dc2 pm2 an2 cd2 ct2), sl2⟩) (c2 : PySem.W.codeIn K cd2 "_law_draw" = true) (k2 : PySem.W.keepIn K (.ref f2) = true)
    (a3 : PySem.W.nsIn K mainGlobals "_law_letter" = some (some (.ref f3))) (l3 : K.lookup f3 = some ⟨oc3, od3, .func (PySem.W.fnOf "_law_letter" "_law_letter" (defArgs s__law_letter) (defBody s__law_letter) (defScope s__law_letter) .none kV3 dc3 pm3 an3 cd3 ct3), sl3⟩) (c3 : PySem.W.codeIn K cd3 "_law_letter" = true) (k3 : PySem.W.keepIn K (.ref f3) = true)
    (a4 : PySem.W.nsIn K mainGlobals "_law_text" = some (some (.ref f4))) (l4 : K.lookup f4 = some ⟨oc4, od4, .func (PySem.W.fnOf "_law_text" "_law_text" (defArgs s__law_text) (defBody s__law_text) (defScope s__law_text) .none kV4 dc4 pm4 an4 cd4 ct4), sl4⟩) (c4 : PySem.W.codeIn K cd4 "_law_text" = true) (k4 : PySem.W.keepIn K (.ref f4) = true)
    (a5 : PySem.W.nsIn K mainGlobals "_law_names" = some (some (.ref f5))) (l5 : K.lookup f5 = some ⟨oc5, od5, .func (PySem.W.fnOf "_law_names" "_law_names" (defArgs s__law_names) (defBody s__law_names) (defScope s__law_names) .none kV5 dc5 pm5 an5 cd5 ct5), sl5⟩) (c5 : PySem.W.codeIn K cd5 "_law_names" = true) (k5 : PySem.W.keepIn K (.ref f5) = true)
    (a6 : PySem.W.nsIn K mainGlobals "_law_pattern" = some (some (.ref f6))) (l6 : K.lookup f6 = some ⟨oc6, od6, .func (PySem.W.fnOf "_law_pattern" "_law_pattern" (defArgs s__law_pattern) (defBody s__law_pattern) (defScope s__law_pattern) .none kV6 dc6 pm6 an6 cd6 ct6), sl6⟩) (c6 : PySem.W.codeIn K cd6 "_law_pattern" = true) (k6 : PySem.W.keepIn K (.ref f6) = true)
    (a7 : PySem.W.nsIn K mainGlobals "_law_part" = some (some (.ref f7))) (l7 : K.lookup f7 = some ⟨oc7, od7, .func (PySem.W.fnOf "_law_part" "_law_part" (defArgs s__law_part) (defBody s__law_part) (defScope s__law_part) .none kV7 dc7 pm7 an7 cd7 ct7), sl7⟩) (c7 : PySem.W.codeIn K cd7 "_law_part" = true) (k7 : PySem.W.keepIn K (.ref f7) = true)
    (a8 : PySem.W.nsIn K mainGlobals "_law_condition" = some (some (.ref f8))) (l8 : K.lookup f8 = some ⟨oc8, od8, .func (PySem.W.fnOf "_law_condition" "_law_condition" (defArgs s__law_condition) (defBody s__law_condition) (defScope s__law_condition) .none kV8 dc8 pm8 an8 cd8 ct8), sl8⟩) (c8 : PySem.W.codeIn K cd8 "_law_condition" = true) (k8 : PySem.W.keepIn K (.ref f8) = true)
    (a9 : PySem.W.nsIn K mainGlobals "_law_source" = some (some (.ref f9))) (l9 : K.lookup f9 = some ⟨oc9, od9, .func (PySem.W.fnOf "_law_source" "_law_source" (defArgs s__law_source) (defBody s__law_source) (defScope s__law_source) .none kV9 dc9 pm9 an9 cd9 ct9), sl9⟩) (c9 : PySem.W.codeIn K cd9 "_law_source" = true) (k9 : PySem.W.keepIn K (.ref f9) = true)
    (a10 : PySem.W.nsIn K mainGlobals "_law_line" = some (some (.ref f10))) (l10 : K.lookup f10 = some ⟨oc10, od10, .func (PySem.W.fnOf "_law_line" "_law_line" (defArgs s__law_line) (defBody s__law_line) (defScope s__law_line) .none kV10 dc10 pm10 an10 cd10 ct10), sl10⟩) (c10 : PySem.W.codeIn K cd10 "_law_line" = true) (k10 : PySem.W.keepIn K (.ref f10) = true)
    (a11 : PySem.W.nsIn K mainGlobals "_law_rule" = some (some (.ref f11))) (l11 : K.lookup f11 = some ⟨oc11, od11, .func (PySem.W.fnOf "_law_rule" "_law_rule" (defArgs s__law_rule) (defBody s__law_rule) (defScope s__law_rule) .none kV11 dc11 pm11 an11 cd11 ct11), sl11⟩) (c11 : PySem.W.codeIn K cd11 "_law_rule" = true) (k11 : PySem.W.keepIn K (.ref f11) = true)
    (a12 : PySem.W.nsIn K mainGlobals "_law_service" = some (some (.ref f12))) (l12 : K.lookup f12 = some ⟨oc12, od12, .func (PySem.W.fnOf "_law_service" "_law_service" (defArgs s__law_service) (defBody s__law_service) (defScope s__law_service) .none kV12 dc12 pm12 an12 cd12 ct12), sl12⟩) (c12 : PySem.W.codeIn K cd12 "_law_service" = true) (k12 : PySem.W.keepIn K (.ref f12) = true)
    (a13 : PySem.W.nsIn K mainGlobals "is_name" = some (some (.ref f13))) (l13 : K.lookup f13 = some ⟨oc13, od13, .func (PySem.W.fnOf "is_name" "is_name" (defArgs s_is_name) (defBody s_is_name) (defScope s_is_name) .none kV13 dc13 pm13 an13 cd13 ct13), sl13⟩) (c13 : PySem.W.codeIn K cd13 "is_name" = true) (k13 : PySem.W.keepIn K (.ref f13) = true)
    (a14 : PySem.W.nsIn K mainGlobals "check_names" = some (some (.ref f14))) (l14 : K.lookup f14 = some ⟨oc14, od14, .func (PySem.W.fnOf "check_names" "check_names" (defArgs s_check_names) (defBody s_check_names) (defScope s_check_names) .none kV14 dc14 pm14 an14 cd14 ct14), sl14⟩) (c14 : PySem.W.codeIn K cd14 "check_names" = true) (k14 : PySem.W.keepIn K (.ref f14) = true)
    (a15 : PySem.W.nsIn K mainGlobals "is_kind" = some (some (.ref f15))) (l15 : K.lookup f15 = some ⟨oc15, od15, .func (PySem.W.fnOf "is_kind" "is_kind" (defArgs s_is_kind) (defBody s_is_kind) (defScope s_is_kind) .none kV15 dc15 pm15 an15 cd15 ct15), sl15⟩) (c15 : PySem.W.codeIn K cd15 "is_kind" = true) (k15 : PySem.W.keepIn K (.ref f15) = true)
    (a16 : PySem.W.nsIn K mainGlobals "check_kinds" = some (some (.ref f16))) (l16 : K.lookup f16 = some ⟨oc16, od16, .func (PySem.W.fnOf "check_kinds" "check_kinds" (defArgs s_check_kinds) (defBody s_check_kinds) (defScope s_check_kinds) (.ref T16) kV16 dc16 pm16 an16 cd16 ct16), sl16⟩) (c16 : PySem.W.codeIn K cd16 "check_kinds" = true) (k16 : PySem.W.keepIn K (.ref f16) = true)
    (a17 : PySem.W.nsIn K mainGlobals "check_name" = some (some (.ref f17))) (l17 : K.lookup f17 = some ⟨oc17, od17, .func (PySem.W.fnOf "check_name" "check_name" (defArgs s_check_name) (defBody s_check_name) (defScope s_check_name) .none kV17 dc17 pm17 an17 cd17 ct17), sl17⟩) (c17 : PySem.W.codeIn K cd17 "check_name" = true) (k17 : PySem.W.keepIn K (.ref f17) = true)
    (a18 : PySem.W.nsIn K mainGlobals "is_pattern" = some (some (.ref f18))) (l18 : K.lookup f18 = some ⟨oc18, od18, .func (PySem.W.fnOf "is_pattern" "is_pattern" (defArgs s_is_pattern) (defBody s_is_pattern) (defScope s_is_pattern) .none kV18 dc18 pm18 an18 cd18 ct18), sl18⟩) (c18 : PySem.W.codeIn K cd18 "is_pattern" = true) (k18 : PySem.W.keepIn K (.ref f18) = true)
    (a19 : PySem.W.nsIn K mainGlobals "check_node" = some (some (.ref f19))) (l19 : K.lookup f19 = some ⟨oc19, od19, .func (PySem.W.fnOf "check_node" "check_node" (defArgs s_check_node) (defBody s_check_node) (defScope s_check_node) .none kV19 dc19 pm19 an19 cd19 ct19), sl19⟩) (c19 : PySem.W.codeIn K cd19 "check_node" = true) (k19 : PySem.W.keepIn K (.ref f19) = true)
    (a20 : PySem.W.nsIn K mainGlobals "parts_of" = some (some (.ref f20))) (l20 : K.lookup f20 = some ⟨oc20, od20, .func (PySem.W.fnOf "parts_of" "parts_of" (defArgs s_parts_of) (defBody s_parts_of) (defScope s_parts_of) .none kV20 dc20 pm20 an20 cd20 ct20), sl20⟩) (c20 : PySem.W.codeIn K cd20 "parts_of" = true) (k20 : PySem.W.keepIn K (.ref f20) = true)
    (a21 : PySem.W.nsIn K mainGlobals "check_parts" = some (some (.ref f21))) (l21 : K.lookup f21 = some ⟨oc21, od21, .func (PySem.W.fnOf "check_parts" "check_parts" (defArgs s_check_parts) (defBody s_check_parts) (defScope s_check_parts) .none kV21 dc21 pm21 an21 cd21 ct21), sl21⟩) (c21 : PySem.W.codeIn K cd21 "check_parts" = true) (k21 : PySem.W.keepIn K (.ref f21) = true)
    (a22 : PySem.W.nsIn K mainGlobals "size_of" = some (some (.ref f22))) (l22 : K.lookup f22 = some ⟨oc22, od22, .func (PySem.W.fnOf "size_of" "size_of" (defArgs s_size_of) (defBody s_size_of) (defScope s_size_of) .none kV22 dc22 pm22 an22 cd22 ct22), sl22⟩) (c22 : PySem.W.codeIn K cd22 "size_of" = true) (k22 : PySem.W.keepIn K (.ref f22) = true)
    (a23 : PySem.W.nsIn K mainGlobals "check_condition" = some (some (.ref f23))) (l23 : K.lookup f23 = some ⟨oc23, od23, .func (PySem.W.fnOf "check_condition" "check_condition" (defArgs s_check_condition) (defBody s_check_condition) (defScope s_check_condition) .none kV23 dc23 pm23 an23 cd23 ct23), sl23⟩) (c23 : PySem.W.codeIn K cd23 "check_condition" = true) (k23 : PySem.W.keepIn K (.ref f23) = true)
    (a24 : PySem.W.nsIn K mainGlobals "is_text" = some (some (.ref f24))) (l24 : K.lookup f24 = some ⟨oc24, od24, .func (PySem.W.fnOf "is_text" "is_text" (defArgs s_is_text) (defBody s_is_text) (defScope s_is_text) .none kV24 dc24 pm24 an24 cd24 ct24), sl24⟩) (c24 : PySem.W.codeIn K cd24 "is_text" = true) (k24 : PySem.W.keepIn K (.ref f24) = true)
    (a25 : PySem.W.nsIn K mainGlobals "check_source" = some (some (.ref f25))) (l25 : K.lookup f25 = some ⟨oc25, od25, .func (PySem.W.fnOf "check_source" "check_source" (defArgs s_check_source) (defBody s_check_source) (defScope s_check_source) .none kV25 dc25 pm25 an25 cd25 ct25), sl25⟩) (c25 : PySem.W.codeIn K cd25 "check_source" = true) (k25 : PySem.W.keepIn K (.ref f25) = true)
    (a26 : PySem.W.nsIn K mainGlobals "check_answer" = some (some (.ref f26))) (l26 : K.lookup f26 = some ⟨oc26, od26, .func (PySem.W.fnOf "check_answer" "check_answer" (defArgs s_check_answer) (defBody s_check_answer) (defScope s_check_answer) .none kV26 dc26 pm26 an26 cd26 ct26), sl26⟩) (c26 : PySem.W.codeIn K cd26 "check_answer" = true) (k26 : PySem.W.keepIn K (.ref f26) = true)
    (a27 : PySem.W.nsIn K mainGlobals "check_line" = some (some (.ref f27))) (l27 : K.lookup f27 = some ⟨oc27, od27, .func (PySem.W.fnOf "check_line" "check_line" (defArgs s_check_line) (defBody s_check_line) (defScope s_check_line) .none kV27 dc27 pm27 an27 cd27 ct27), sl27⟩) (c27 : PySem.W.codeIn K cd27 "check_line" = true) (k27 : PySem.W.keepIn K (.ref f27) = true)
    (a28 : PySem.W.nsIn K mainGlobals "value_names" = some (some (.ref f28))) (l28 : K.lookup f28 = some ⟨oc28, od28, .func (PySem.W.fnOf "value_names" "value_names" (defArgs s_value_names) (defBody s_value_names) (defScope s_value_names) .none kV28 dc28 pm28 an28 cd28 ct28), sl28⟩) (c28 : PySem.W.codeIn K cd28 "value_names" = true) (k28 : PySem.W.keepIn K (.ref f28) = true)
    (a29 : PySem.W.nsIn K mainGlobals "check_rule" = some (some (.ref f29))) (l29 : K.lookup f29 = some ⟨oc29, od29, .func (PySem.W.fnOf "check_rule" "check_rule" (defArgs s_check_rule) (defBody s_check_rule) (defScope s_check_rule) .none kV29 dc29 pm29 an29 cd29 ct29), sl29⟩) (c29 : PySem.W.codeIn K cd29 "check_rule" = true) (k29 : PySem.W.keepIn K (.ref f29) = true)
    (a30 : PySem.W.findIn K (.ref C_Service) "__init__" = some (some (.ref f30))) (fn30 : PySem.W.isFn K (.ref f30) = true)
    (l30 : K.lookup f30 = some ⟨oc30, od30, .func (PySem.W.fnOf "__init__" "Service.__init__" (defArgs s_Service_m_init) (defBody s_Service_m_init) (defScope s_Service_m_init) .none kV30 dc30 pm30 an30 cd30 ct30), sl30⟩) (c30 : PySem.W.codeIn K cd30 "Service.__init__" = true) (k30 : PySem.W.keepIn K (.ref f30) = true)
    (a31 : PySem.W.nsIn K mainGlobals "_law_text_of" = some (some (.ref f31))) (l31 : K.lookup f31 = some ⟨oc31, od31, .func (PySem.W.fnOf "_law_text_of" "_law_text_of" (defArgs s__law_text_of) (defBody s__law_text_of) (defScope s__law_text_of) .none kV31 dc31 pm31 an31 cd31 ct31), sl31⟩) (c31 : PySem.W.codeIn K cd31 "_law_text_of" = true) (k31 : PySem.W.keepIn K (.ref f31) = true)
    (a32 : PySem.W.nsIn K mainGlobals "_law_words_of_condition" = some (some (.ref f32))) (l32 : K.lookup f32 = some ⟨oc32, od32, .func (PySem.W.fnOf "_law_words_of_condition" "_law_words_of_condition" (defArgs s__law_words_of_condition) (defBody s__law_words_of_condition) (defScope s__law_words_of_condition) .none kV32 dc32 pm32 an32 cd32 ct32), sl32⟩) (c32 : PySem.W.codeIn K cd32 "_law_words_of_condition" = true) (k32 : PySem.W.keepIn K (.ref f32) = true)
    (a33 : PySem.W.nsIn K mainGlobals "_law_words_of_line" = some (some (.ref f33))) (l33 : K.lookup f33 = some ⟨oc33, od33, .func (PySem.W.fnOf "_law_words_of_line" "_law_words_of_line" (defArgs s__law_words_of_line) (defBody s__law_words_of_line) (defScope s__law_words_of_line) .none kV33 dc33 pm33 an33 cd33 ct33), sl33⟩) (c33 : PySem.W.codeIn K cd33 "_law_words_of_line" = true) (k33 : PySem.W.keepIn K (.ref f33) = true)
    (a34 : PySem.W.nsIn K mainGlobals "_law_line_of_rule" = some (some (.ref f34))) (l34 : K.lookup f34 = some ⟨oc34, od34, .func (PySem.W.fnOf "_law_line_of_rule" "_law_line_of_rule" (defArgs s__law_line_of_rule) (defBody s__law_line_of_rule) (defScope s__law_line_of_rule) .none kV34 dc34 pm34 an34 cd34 ct34), sl34⟩) (c34 : PySem.W.codeIn K cd34 "_law_line_of_rule" = true) (k34 : PySem.W.keepIn K (.ref f34) = true)
    (a35 : PySem.W.nsIn K mainGlobals "_law_lines" = some (some (.ref f35))) (l35 : K.lookup f35 = some ⟨oc35, od35, .func (PySem.W.fnOf "_law_lines" "_law_lines" (defArgs s__law_lines) (defBody s__law_lines) (defScope s__law_lines) .none kV35 dc35 pm35 an35 cd35 ct35), sl35⟩) (c35 : PySem.W.codeIn K cd35 "_law_lines" = true) (k35 : PySem.W.keepIn K (.ref f35) = true)
    (a36 : PySem.W.nsIn K mainGlobals "format_condition" = some (some (.ref f36))) (l36 : K.lookup f36 = some ⟨oc36, od36, .func (PySem.W.fnOf "format_condition" "format_condition" (defArgs s_format_condition) (defBody s_format_condition) (defScope s_format_condition) .none kV36 dc36 pm36 an36 cd36 ct36), sl36⟩) (c36 : PySem.W.codeIn K cd36 "format_condition" = true) (k36 : PySem.W.keepIn K (.ref f36) = true)
    (a37 : PySem.W.nsIn K mainGlobals "format_line" = some (some (.ref f37))) (l37 : K.lookup f37 = some ⟨oc37, od37, .func (PySem.W.fnOf "format_line" "format_line" (defArgs s_format_line) (defBody s_format_line) (defScope s_format_line) .none kV37 dc37 pm37 an37 cd37 ct37), sl37⟩) (c37 : PySem.W.codeIn K cd37 "format_line" = true) (k37 : PySem.W.keepIn K (.ref f37) = true)
    (a38 : PySem.W.nsIn K mainGlobals "format_rule" = some (some (.ref f38))) (l38 : K.lookup f38 = some ⟨oc38, od38, .func (PySem.W.fnOf "format_rule" "format_rule" (defArgs s_format_rule) (defBody s_format_rule) (defScope s_format_rule) .none kV38 dc38 pm38 an38 cd38 ct38), sl38⟩) (c38 : PySem.W.codeIn K cd38 "format_rule" = true) (k38 : PySem.W.keepIn K (.ref f38) = true)
    (a39 : PySem.W.findIn K (.ref C_Service) "stations" = some (some (.ref p39))) (pg39 : PySem.W.specialIn K (.ref p39) "__get__" = some (some (.builtin "property.__get__"))) (pt39 : PySem.W.takesIn K (.ref p39) = some true) (pr39 : PySem.W.recIn K p39 "property" = some (.ref f39 :: r39))
    (l39 : K.lookup f39 = some ⟨oc39, od39, .func (PySem.W.fnOf "stations" "Service.stations" (defArgs s_Service_p_stations) (defBody s_Service_p_stations) (defScope s_Service_p_stations) .none kV39 dc39 pm39 an39 cd39 ct39), sl39⟩) (c39 : PySem.W.codeIn K cd39 "Service.stations" = true) (k39 : PySem.W.keepIn K (.ref f39) = true)
    (a40 : PySem.W.findIn K (.ref C_Service) "registers" = some (some (.ref p40))) (pg40 : PySem.W.specialIn K (.ref p40) "__get__" = some (some (.builtin "property.__get__"))) (pt40 : PySem.W.takesIn K (.ref p40) = some true) (pr40 : PySem.W.recIn K p40 "property" = some (.ref f40 :: r40))
    (l40 : K.lookup f40 = some ⟨oc40, od40, .func (PySem.W.fnOf "registers" "Service.registers" (defArgs s_Service_p_registers) (defBody s_Service_p_registers) (defScope s_Service_p_registers) .none kV40 dc40 pm40 an40 cd40 ct40), sl40⟩) (c40 : PySem.W.codeIn K cd40 "Service.registers" = true) (k40 : PySem.W.keepIn K (.ref f40) = true)
    (a41 : PySem.W.findIn K (.ref C_Service) "requests" = some (some (.ref p41))) (pg41 : PySem.W.specialIn K (.ref p41) "__get__" = some (some (.builtin "property.__get__"))) (pt41 : PySem.W.takesIn K (.ref p41) = some true) (pr41 : PySem.W.recIn K p41 "property" = some (.ref f41 :: r41))
    (l41 : K.lookup f41 = some ⟨oc41, od41, .func (PySem.W.fnOf "requests" "Service.requests" (defArgs s_Service_p_requests) (defBody s_Service_p_requests) (defScope s_Service_p_requests) .none kV41 dc41 pm41 an41 cd41 ct41), sl41⟩) (c41 : PySem.W.codeIn K cd41 "Service.requests" = true) (k41 : PySem.W.keepIn K (.ref f41) = true)
    (a42 : PySem.W.findIn K (.ref C_Service) "rules" = some (some (.ref p42))) (pg42 : PySem.W.specialIn K (.ref p42) "__get__" = some (some (.builtin "property.__get__"))) (pt42 : PySem.W.takesIn K (.ref p42) = some true) (pr42 : PySem.W.recIn K p42 "property" = some (.ref f42 :: r42))
    (l42 : K.lookup f42 = some ⟨oc42, od42, .func (PySem.W.fnOf "rules" "Service.rules" (defArgs s_Service_p_rules) (defBody s_Service_p_rules) (defScope s_Service_p_rules) .none kV42 dc42 pm42 an42 cd42 ct42), sl42⟩) (c42 : PySem.W.codeIn K cd42 "Service.rules" = true) (k42 : PySem.W.keepIn K (.ref f42) = true)
    (a43 : PySem.W.nsIn K mainGlobals "format_service" = some (some (.ref f43))) (l43 : K.lookup f43 = some ⟨oc43, od43, .func (PySem.W.fnOf "format_service" "format_service" (defArgs s_format_service) (defBody s_format_service) (defScope s_format_service) .none kV43 dc43 pm43 an43 cd43 ct43), sl43⟩) (c43 : PySem.W.codeIn K cd43 "format_service" = true) (k43 : PySem.W.keepIn K (.ref f43) = true)
    (a44 : PySem.W.nsIn K mainGlobals "law" = some (some (.ref f44))) (l44 : K.lookup f44 = some ⟨oc44, od44, .func (PySem.W.fnOf "law" "law" (defArgs s_law) (defBody s_law) (defScope s_law) .none kV44 dc44 pm44 an44 cd44 ct44), sl44⟩) (c44 : PySem.W.codeIn K cd44 "law" = true) (k44 : PySem.W.keepIn K (.ref f44) = true)
    (lT16 : K.lookup T16 = some ⟨.type "tuple", ddT16, .seq #[.ref U16_0] nT16, slT16⟩)
    (lU16_0 : K.lookup U16_0 = some ⟨.type "tuple", ddU16_0, .seq #[] nU16_0, slU16_0⟩)
    (A_TalkError : PySem.W.nsIn K mainGlobals "TalkError" = some (some (.ref C_TalkError)))
    (X_TalkError : K.lookup C_TalkError = some (excClassObj nm_TalkError qn_TalkError C_TalkError N_TalkError bs_TalkError [.type "ValueError", .type "Exception", .type "BaseException", .type "object"] true sn_TalkError sub_TalkError ab_TalkError col_TalkError dd_TalkError m0_TalkError m1_TalkError m2_TalkError m3_TalkError m5_TalkError "ValueError.__new__"))
    (sa_TalkError : PySem.W.findIn K (.ref C_TalkError) "__setattr__" = some (some (.builtin "object.__setattr__")))
    (ga_TalkError : PySem.W.findIn K (.ref C_TalkError) "__getattribute__" = some (some (.builtin "BaseException.__getattribute__")))
    (gg_TalkError : PySem.W.findIn K (.ref C_TalkError) "__getattr__" = some none)
    (nW_TalkError : PySem.W.findIn K (.ref C_TalkError) "word" = some none)
    (nP_TalkError : PySem.W.findIn K (.ref C_TalkError) "place" = some none)
    (kC_TalkError : PySem.W.keepIn K (.ref C_TalkError) = true)
    (eC_TalkError : PySem.W.subIn K (.ref C_TalkError) (.type "BaseException") = some true)
    (tC_TalkError : PySem.W.typeIn K (.ref C_TalkError) = some (.type "type"))
    (hC_TalkError : PySem.W.hasDictIn K C_TalkError = true)
    (ca_TalkError : PySem.W.findIn K (.ref C_TalkError) "__class__" = some (some (.builtin "object.__class__")))
    (mo_TalkError : PySem.W.mroIn K C_TalkError (.type "object") = some true)
    (iI_TalkError : PySem.W.findIn K (.ref C_TalkError) "__init__" = some (some (.ref fI_TalkError)))
    (tI_TalkError : PySem.W.typeIn K (.ref fI_TalkError) = some (.type "function"))
    (lI_TalkError : K.lookup fI_TalkError = some ⟨oi_TalkError, oo_TalkError, .func (PySem.W.fnOf "__init__" "TalkError.__init__" (defArgs m_TalkError) (defBody m_TalkError) (defScope m_TalkError) (.ref T_TalkError) kv_TalkError dc_TalkError pm_TalkError an_TalkError cd_TalkError ct_TalkError), sl_TalkError⟩)
    (cI_TalkError : PySem.W.codeIn K cd_TalkError "TalkError.__init__" = true)
    (kI_TalkError : PySem.W.keepIn K (.ref fI_TalkError) = true)
    (lT_TalkError : K.lookup T_TalkError = some ⟨.type "tuple", ddT_TalkError, .seq #[.none] nT_TalkError, slT_TalkError⟩)
    (rd_TalkError : PySem.W.readsIn K C_TalkError (.type "type") = true)
    (sg_TalkError : PySem.W.specialIn K (.ref C_TalkError) "__getattribute__" = some (some (.builtin "type.__getattribute__")))
    (cf_TalkError : PySem.W.findCls K (.ref C_TalkError) (.type "type") "__init__" = some (.val (.ref fI_TalkError)))
    (hn_TalkError : PySem.W.specialIn K (.builtin "object.__class__") "__get__" = some (some (.builtin "getset_descriptor.__get__")))
    (ht_TalkError : PySem.W.takesIn K (.builtin "object.__class__") = some true)
    (A_BadPattern : PySem.W.nsIn K mainGlobals "BadPattern" = some (some (.ref C_BadPattern)))
    (X_BadPattern : K.lookup C_BadPattern = some (excClassObj nm_BadPattern qn_BadPattern C_BadPattern N_BadPattern bs_BadPattern [.ref C_TalkError, .type "ValueError", .type "Exception", .type "BaseException", .type "object"] true sn_BadPattern sub_BadPattern ab_BadPattern col_BadPattern dd_BadPattern m0_BadPattern m1_BadPattern m2_BadPattern m3_BadPattern m5_BadPattern "ValueError.__new__"))
    (sa_BadPattern : PySem.W.findIn K (.ref C_BadPattern) "__setattr__" = some (some (.builtin "object.__setattr__")))
    (ga_BadPattern : PySem.W.findIn K (.ref C_BadPattern) "__getattribute__" = some (some (.builtin "BaseException.__getattribute__")))
    (gg_BadPattern : PySem.W.findIn K (.ref C_BadPattern) "__getattr__" = some none)
    (nW_BadPattern : PySem.W.findIn K (.ref C_BadPattern) "word" = some none)
    (nP_BadPattern : PySem.W.findIn K (.ref C_BadPattern) "place" = some none)
    (kC_BadPattern : PySem.W.keepIn K (.ref C_BadPattern) = true)
    (eC_BadPattern : PySem.W.subIn K (.ref C_BadPattern) (.type "BaseException") = some true)
    (tC_BadPattern : PySem.W.typeIn K (.ref C_BadPattern) = some (.type "type"))
    (hC_BadPattern : PySem.W.hasDictIn K C_BadPattern = true)
    (ca_BadPattern : PySem.W.findIn K (.ref C_BadPattern) "__class__" = some (some (.builtin "object.__class__")))
    (mo_BadPattern : PySem.W.mroIn K C_BadPattern (.type "object") = some true)
    (iI_BadPattern : PySem.W.findIn K (.ref C_BadPattern) "__init__" = some (some (.ref fI_BadPattern)))
    (tI_BadPattern : PySem.W.typeIn K (.ref fI_BadPattern) = some (.type "function"))
    (lI_BadPattern : K.lookup fI_BadPattern = some ⟨oi_BadPattern, oo_BadPattern, .func (PySem.W.fnOf "__init__" "BadPattern.__init__" (defArgs m_BadPattern) (defBody m_BadPattern) (defScope m_BadPattern) (.ref T_BadPattern) kv_BadPattern dc_BadPattern pm_BadPattern an_BadPattern cd_BadPattern ct_BadPattern), sl_BadPattern⟩)
    (cI_BadPattern : PySem.W.codeIn K cd_BadPattern "BadPattern.__init__" = true)
    (kI_BadPattern : PySem.W.keepIn K (.ref fI_BadPattern) = true)
    (lT_BadPattern : K.lookup T_BadPattern = some ⟨.type "tuple", ddT_BadPattern, .seq #[.none] nT_BadPattern, slT_BadPattern⟩)
    (A_BadKinds : PySem.W.nsIn K mainGlobals "BadKinds" = some (some (.ref C_BadKinds)))
    (X_BadKinds : K.lookup C_BadKinds = some (excClassObj nm_BadKinds qn_BadKinds C_BadKinds N_BadKinds bs_BadKinds [.ref C_TalkError, .type "ValueError", .type "Exception", .type "BaseException", .type "object"] true sn_BadKinds sub_BadKinds ab_BadKinds col_BadKinds dd_BadKinds m0_BadKinds m1_BadKinds m2_BadKinds m3_BadKinds m5_BadKinds "ValueError.__new__"))
    (sa_BadKinds : PySem.W.findIn K (.ref C_BadKinds) "__setattr__" = some (some (.builtin "object.__setattr__")))
    (ga_BadKinds : PySem.W.findIn K (.ref C_BadKinds) "__getattribute__" = some (some (.builtin "BaseException.__getattribute__")))
    (gg_BadKinds : PySem.W.findIn K (.ref C_BadKinds) "__getattr__" = some none)
    (nW_BadKinds : PySem.W.findIn K (.ref C_BadKinds) "word" = some none)
    (nP_BadKinds : PySem.W.findIn K (.ref C_BadKinds) "place" = some none)
    (kC_BadKinds : PySem.W.keepIn K (.ref C_BadKinds) = true)
    (eC_BadKinds : PySem.W.subIn K (.ref C_BadKinds) (.type "BaseException") = some true)
    (tC_BadKinds : PySem.W.typeIn K (.ref C_BadKinds) = some (.type "type"))
    (hC_BadKinds : PySem.W.hasDictIn K C_BadKinds = true)
    (ca_BadKinds : PySem.W.findIn K (.ref C_BadKinds) "__class__" = some (some (.builtin "object.__class__")))
    (mo_BadKinds : PySem.W.mroIn K C_BadKinds (.type "object") = some true)
    (iI_BadKinds : PySem.W.findIn K (.ref C_BadKinds) "__init__" = some (some (.ref fI_BadKinds)))
    (tI_BadKinds : PySem.W.typeIn K (.ref fI_BadKinds) = some (.type "function"))
    (lI_BadKinds : K.lookup fI_BadKinds = some ⟨oi_BadKinds, oo_BadKinds, .func (PySem.W.fnOf "__init__" "BadKinds.__init__" (defArgs m_BadKinds) (defBody m_BadKinds) (defScope m_BadKinds) (.ref T_BadKinds) kv_BadKinds dc_BadKinds pm_BadKinds an_BadKinds cd_BadKinds ct_BadKinds), sl_BadKinds⟩)
    (cI_BadKinds : PySem.W.codeIn K cd_BadKinds "BadKinds.__init__" = true)
    (kI_BadKinds : PySem.W.keepIn K (.ref fI_BadKinds) = true)
    (lT_BadKinds : K.lookup T_BadKinds = some ⟨.type "tuple", ddT_BadKinds, .seq #[.none] nT_BadKinds, slT_BadKinds⟩)
    (A_BadCondition : PySem.W.nsIn K mainGlobals "BadCondition" = some (some (.ref C_BadCondition)))
    (X_BadCondition : K.lookup C_BadCondition = some (excClassObj nm_BadCondition qn_BadCondition C_BadCondition N_BadCondition bs_BadCondition [.ref C_TalkError, .type "ValueError", .type "Exception", .type "BaseException", .type "object"] true sn_BadCondition sub_BadCondition ab_BadCondition col_BadCondition dd_BadCondition m0_BadCondition m1_BadCondition m2_BadCondition m3_BadCondition m5_BadCondition "ValueError.__new__"))
    (sa_BadCondition : PySem.W.findIn K (.ref C_BadCondition) "__setattr__" = some (some (.builtin "object.__setattr__")))
    (ga_BadCondition : PySem.W.findIn K (.ref C_BadCondition) "__getattribute__" = some (some (.builtin "BaseException.__getattribute__")))
    (gg_BadCondition : PySem.W.findIn K (.ref C_BadCondition) "__getattr__" = some none)
    (nW_BadCondition : PySem.W.findIn K (.ref C_BadCondition) "word" = some none)
    (nP_BadCondition : PySem.W.findIn K (.ref C_BadCondition) "place" = some none)
    (kC_BadCondition : PySem.W.keepIn K (.ref C_BadCondition) = true)
    (eC_BadCondition : PySem.W.subIn K (.ref C_BadCondition) (.type "BaseException") = some true)
    (tC_BadCondition : PySem.W.typeIn K (.ref C_BadCondition) = some (.type "type"))
    (hC_BadCondition : PySem.W.hasDictIn K C_BadCondition = true)
    (ca_BadCondition : PySem.W.findIn K (.ref C_BadCondition) "__class__" = some (some (.builtin "object.__class__")))
    (mo_BadCondition : PySem.W.mroIn K C_BadCondition (.type "object") = some true)
    (iI_BadCondition : PySem.W.findIn K (.ref C_BadCondition) "__init__" = some (some (.ref fI_BadCondition)))
    (tI_BadCondition : PySem.W.typeIn K (.ref fI_BadCondition) = some (.type "function"))
    (lI_BadCondition : K.lookup fI_BadCondition = some ⟨oi_BadCondition, oo_BadCondition, .func (PySem.W.fnOf "__init__" "BadCondition.__init__" (defArgs m_BadCondition) (defBody m_BadCondition) (defScope m_BadCondition) (.ref T_BadCondition) kv_BadCondition dc_BadCondition pm_BadCondition an_BadCondition cd_BadCondition ct_BadCondition), sl_BadCondition⟩)
    (cI_BadCondition : PySem.W.codeIn K cd_BadCondition "BadCondition.__init__" = true)
    (kI_BadCondition : PySem.W.keepIn K (.ref fI_BadCondition) = true)
    (lT_BadCondition : K.lookup T_BadCondition = some ⟨.type "tuple", ddT_BadCondition, .seq #[.none] nT_BadCondition, slT_BadCondition⟩)
    (A_UnknownName : PySem.W.nsIn K mainGlobals "UnknownName" = some (some (.ref C_UnknownName)))
    (X_UnknownName : K.lookup C_UnknownName = some (excClassObj nm_UnknownName qn_UnknownName C_UnknownName N_UnknownName bs_UnknownName [.ref C_TalkError, .type "ValueError", .type "Exception", .type "BaseException", .type "object"] true sn_UnknownName sub_UnknownName ab_UnknownName col_UnknownName dd_UnknownName m0_UnknownName m1_UnknownName m2_UnknownName m3_UnknownName m5_UnknownName "ValueError.__new__"))
    (sa_UnknownName : PySem.W.findIn K (.ref C_UnknownName) "__setattr__" = some (some (.builtin "object.__setattr__")))
    (ga_UnknownName : PySem.W.findIn K (.ref C_UnknownName) "__getattribute__" = some (some (.builtin "BaseException.__getattribute__")))
    (gg_UnknownName : PySem.W.findIn K (.ref C_UnknownName) "__getattr__" = some none)
    (nW_UnknownName : PySem.W.findIn K (.ref C_UnknownName) "word" = some none)
    (nP_UnknownName : PySem.W.findIn K (.ref C_UnknownName) "place" = some none)
    (kC_UnknownName : PySem.W.keepIn K (.ref C_UnknownName) = true)
    (eC_UnknownName : PySem.W.subIn K (.ref C_UnknownName) (.type "BaseException") = some true)
    (tC_UnknownName : PySem.W.typeIn K (.ref C_UnknownName) = some (.type "type"))
    (hC_UnknownName : PySem.W.hasDictIn K C_UnknownName = true)
    (ca_UnknownName : PySem.W.findIn K (.ref C_UnknownName) "__class__" = some (some (.builtin "object.__class__")))
    (mo_UnknownName : PySem.W.mroIn K C_UnknownName (.type "object") = some true)
    (iI_UnknownName : PySem.W.findIn K (.ref C_UnknownName) "__init__" = some (some (.ref fI_UnknownName)))
    (tI_UnknownName : PySem.W.typeIn K (.ref fI_UnknownName) = some (.type "function"))
    (lI_UnknownName : K.lookup fI_UnknownName = some ⟨oi_UnknownName, oo_UnknownName, .func (PySem.W.fnOf "__init__" "UnknownName.__init__" (defArgs m_UnknownName) (defBody m_UnknownName) (defScope m_UnknownName) (.ref T_UnknownName) kv_UnknownName dc_UnknownName pm_UnknownName an_UnknownName cd_UnknownName ct_UnknownName), sl_UnknownName⟩)
    (cI_UnknownName : PySem.W.codeIn K cd_UnknownName "UnknownName.__init__" = true)
    (kI_UnknownName : PySem.W.keepIn K (.ref fI_UnknownName) = true)
    (lT_UnknownName : K.lookup T_UnknownName = some ⟨.type "tuple", ddT_UnknownName, .seq #[.none] nT_UnknownName, slT_UnknownName⟩)
    (A_UnknownStation : PySem.W.nsIn K mainGlobals "UnknownStation" = some (some (.ref C_UnknownStation)))
    (X_UnknownStation : K.lookup C_UnknownStation = some (excClassObj nm_UnknownStation qn_UnknownStation C_UnknownStation N_UnknownStation bs_UnknownStation [.ref C_TalkError, .type "ValueError", .type "Exception", .type "BaseException", .type "object"] true sn_UnknownStation sub_UnknownStation ab_UnknownStation col_UnknownStation dd_UnknownStation m0_UnknownStation m1_UnknownStation m2_UnknownStation m3_UnknownStation m5_UnknownStation "ValueError.__new__"))
    (sa_UnknownStation : PySem.W.findIn K (.ref C_UnknownStation) "__setattr__" = some (some (.builtin "object.__setattr__")))
    (ga_UnknownStation : PySem.W.findIn K (.ref C_UnknownStation) "__getattribute__" = some (some (.builtin "BaseException.__getattribute__")))
    (gg_UnknownStation : PySem.W.findIn K (.ref C_UnknownStation) "__getattr__" = some none)
    (nW_UnknownStation : PySem.W.findIn K (.ref C_UnknownStation) "word" = some none)
    (nP_UnknownStation : PySem.W.findIn K (.ref C_UnknownStation) "place" = some none)
    (kC_UnknownStation : PySem.W.keepIn K (.ref C_UnknownStation) = true)
    (eC_UnknownStation : PySem.W.subIn K (.ref C_UnknownStation) (.type "BaseException") = some true)
    (tC_UnknownStation : PySem.W.typeIn K (.ref C_UnknownStation) = some (.type "type"))
    (hC_UnknownStation : PySem.W.hasDictIn K C_UnknownStation = true)
    (ca_UnknownStation : PySem.W.findIn K (.ref C_UnknownStation) "__class__" = some (some (.builtin "object.__class__")))
    (mo_UnknownStation : PySem.W.mroIn K C_UnknownStation (.type "object") = some true)
    (iI_UnknownStation : PySem.W.findIn K (.ref C_UnknownStation) "__init__" = some (some (.ref fI_UnknownStation)))
    (tI_UnknownStation : PySem.W.typeIn K (.ref fI_UnknownStation) = some (.type "function"))
    (lI_UnknownStation : K.lookup fI_UnknownStation = some ⟨oi_UnknownStation, oo_UnknownStation, .func (PySem.W.fnOf "__init__" "UnknownStation.__init__" (defArgs m_UnknownStation) (defBody m_UnknownStation) (defScope m_UnknownStation) (.ref T_UnknownStation) kv_UnknownStation dc_UnknownStation pm_UnknownStation an_UnknownStation cd_UnknownStation ct_UnknownStation), sl_UnknownStation⟩)
    (cI_UnknownStation : PySem.W.codeIn K cd_UnknownStation "UnknownStation.__init__" = true)
    (kI_UnknownStation : PySem.W.keepIn K (.ref fI_UnknownStation) = true)
    (lT_UnknownStation : K.lookup T_UnknownStation = some ⟨.type "tuple", ddT_UnknownStation, .seq #[.none] nT_UnknownStation, slT_UnknownStation⟩)
    (A_UnknownRequest : PySem.W.nsIn K mainGlobals "UnknownRequest" = some (some (.ref C_UnknownRequest)))
    (X_UnknownRequest : K.lookup C_UnknownRequest = some (excClassObj nm_UnknownRequest qn_UnknownRequest C_UnknownRequest N_UnknownRequest bs_UnknownRequest [.ref C_TalkError, .type "ValueError", .type "Exception", .type "BaseException", .type "object"] true sn_UnknownRequest sub_UnknownRequest ab_UnknownRequest col_UnknownRequest dd_UnknownRequest m0_UnknownRequest m1_UnknownRequest m2_UnknownRequest m3_UnknownRequest m5_UnknownRequest "ValueError.__new__"))
    (sa_UnknownRequest : PySem.W.findIn K (.ref C_UnknownRequest) "__setattr__" = some (some (.builtin "object.__setattr__")))
    (ga_UnknownRequest : PySem.W.findIn K (.ref C_UnknownRequest) "__getattribute__" = some (some (.builtin "BaseException.__getattribute__")))
    (gg_UnknownRequest : PySem.W.findIn K (.ref C_UnknownRequest) "__getattr__" = some none)
    (nW_UnknownRequest : PySem.W.findIn K (.ref C_UnknownRequest) "word" = some none)
    (nP_UnknownRequest : PySem.W.findIn K (.ref C_UnknownRequest) "place" = some none)
    (kC_UnknownRequest : PySem.W.keepIn K (.ref C_UnknownRequest) = true)
    (eC_UnknownRequest : PySem.W.subIn K (.ref C_UnknownRequest) (.type "BaseException") = some true)
    (tC_UnknownRequest : PySem.W.typeIn K (.ref C_UnknownRequest) = some (.type "type"))
    (hC_UnknownRequest : PySem.W.hasDictIn K C_UnknownRequest = true)
    (ca_UnknownRequest : PySem.W.findIn K (.ref C_UnknownRequest) "__class__" = some (some (.builtin "object.__class__")))
    (mo_UnknownRequest : PySem.W.mroIn K C_UnknownRequest (.type "object") = some true)
    (iI_UnknownRequest : PySem.W.findIn K (.ref C_UnknownRequest) "__init__" = some (some (.ref fI_UnknownRequest)))
    (tI_UnknownRequest : PySem.W.typeIn K (.ref fI_UnknownRequest) = some (.type "function"))
    (lI_UnknownRequest : K.lookup fI_UnknownRequest = some ⟨oi_UnknownRequest, oo_UnknownRequest, .func (PySem.W.fnOf "__init__" "UnknownRequest.__init__" (defArgs m_UnknownRequest) (defBody m_UnknownRequest) (defScope m_UnknownRequest) (.ref T_UnknownRequest) kv_UnknownRequest dc_UnknownRequest pm_UnknownRequest an_UnknownRequest cd_UnknownRequest ct_UnknownRequest), sl_UnknownRequest⟩)
    (cI_UnknownRequest : PySem.W.codeIn K cd_UnknownRequest "UnknownRequest.__init__" = true)
    (kI_UnknownRequest : PySem.W.keepIn K (.ref fI_UnknownRequest) = true)
    (lT_UnknownRequest : K.lookup T_UnknownRequest = some ⟨.type "tuple", ddT_UnknownRequest, .seq #[.none] nT_UnknownRequest, slT_UnknownRequest⟩)
    (A_BadRule : PySem.W.nsIn K mainGlobals "BadRule" = some (some (.ref C_BadRule)))
    (X_BadRule : K.lookup C_BadRule = some (excClassObj nm_BadRule qn_BadRule C_BadRule N_BadRule bs_BadRule [.ref C_TalkError, .type "ValueError", .type "Exception", .type "BaseException", .type "object"] true sn_BadRule sub_BadRule ab_BadRule col_BadRule dd_BadRule m0_BadRule m1_BadRule m2_BadRule m3_BadRule m5_BadRule "ValueError.__new__"))
    (sa_BadRule : PySem.W.findIn K (.ref C_BadRule) "__setattr__" = some (some (.builtin "object.__setattr__")))
    (ga_BadRule : PySem.W.findIn K (.ref C_BadRule) "__getattribute__" = some (some (.builtin "BaseException.__getattribute__")))
    (gg_BadRule : PySem.W.findIn K (.ref C_BadRule) "__getattr__" = some none)
    (nW_BadRule : PySem.W.findIn K (.ref C_BadRule) "word" = some none)
    (nP_BadRule : PySem.W.findIn K (.ref C_BadRule) "place" = some none)
    (kC_BadRule : PySem.W.keepIn K (.ref C_BadRule) = true)
    (eC_BadRule : PySem.W.subIn K (.ref C_BadRule) (.type "BaseException") = some true)
    (tC_BadRule : PySem.W.typeIn K (.ref C_BadRule) = some (.type "type"))
    (hC_BadRule : PySem.W.hasDictIn K C_BadRule = true)
    (ca_BadRule : PySem.W.findIn K (.ref C_BadRule) "__class__" = some (some (.builtin "object.__class__")))
    (mo_BadRule : PySem.W.mroIn K C_BadRule (.type "object") = some true)
    (iI_BadRule : PySem.W.findIn K (.ref C_BadRule) "__init__" = some (some (.ref fI_BadRule)))
    (tI_BadRule : PySem.W.typeIn K (.ref fI_BadRule) = some (.type "function"))
    (lI_BadRule : K.lookup fI_BadRule = some ⟨oi_BadRule, oo_BadRule, .func (PySem.W.fnOf "__init__" "BadRule.__init__" (defArgs m_BadRule) (defBody m_BadRule) (defScope m_BadRule) (.ref T_BadRule) kv_BadRule dc_BadRule pm_BadRule an_BadRule cd_BadRule ct_BadRule), sl_BadRule⟩)
    (cI_BadRule : PySem.W.codeIn K cd_BadRule "BadRule.__init__" = true)
    (kI_BadRule : PySem.W.keepIn K (.ref fI_BadRule) = true)
    (lT_BadRule : K.lookup T_BadRule = some ⟨.type "tuple", ddT_BadRule, .seq #[.none] nT_BadRule, slT_BadRule⟩)
    (A_BadSource : PySem.W.nsIn K mainGlobals "BadSource" = some (some (.ref C_BadSource)))
    (X_BadSource : K.lookup C_BadSource = some (excClassObj nm_BadSource qn_BadSource C_BadSource N_BadSource bs_BadSource [.ref C_TalkError, .type "ValueError", .type "Exception", .type "BaseException", .type "object"] true sn_BadSource sub_BadSource ab_BadSource col_BadSource dd_BadSource m0_BadSource m1_BadSource m2_BadSource m3_BadSource m5_BadSource "ValueError.__new__"))
    (sa_BadSource : PySem.W.findIn K (.ref C_BadSource) "__setattr__" = some (some (.builtin "object.__setattr__")))
    (ga_BadSource : PySem.W.findIn K (.ref C_BadSource) "__getattribute__" = some (some (.builtin "BaseException.__getattribute__")))
    (gg_BadSource : PySem.W.findIn K (.ref C_BadSource) "__getattr__" = some none)
    (nW_BadSource : PySem.W.findIn K (.ref C_BadSource) "word" = some none)
    (nP_BadSource : PySem.W.findIn K (.ref C_BadSource) "place" = some none)
    (kC_BadSource : PySem.W.keepIn K (.ref C_BadSource) = true)
    (eC_BadSource : PySem.W.subIn K (.ref C_BadSource) (.type "BaseException") = some true)
    (tC_BadSource : PySem.W.typeIn K (.ref C_BadSource) = some (.type "type"))
    (hC_BadSource : PySem.W.hasDictIn K C_BadSource = true)
    (ca_BadSource : PySem.W.findIn K (.ref C_BadSource) "__class__" = some (some (.builtin "object.__class__")))
    (mo_BadSource : PySem.W.mroIn K C_BadSource (.type "object") = some true)
    (iI_BadSource : PySem.W.findIn K (.ref C_BadSource) "__init__" = some (some (.ref fI_BadSource)))
    (tI_BadSource : PySem.W.typeIn K (.ref fI_BadSource) = some (.type "function"))
    (lI_BadSource : K.lookup fI_BadSource = some ⟨oi_BadSource, oo_BadSource, .func (PySem.W.fnOf "__init__" "BadSource.__init__" (defArgs m_BadSource) (defBody m_BadSource) (defScope m_BadSource) (.ref T_BadSource) kv_BadSource dc_BadSource pm_BadSource an_BadSource cd_BadSource ct_BadSource), sl_BadSource⟩)
    (cI_BadSource : PySem.W.codeIn K cd_BadSource "BadSource.__init__" = true)
    (kI_BadSource : PySem.W.keepIn K (.ref fI_BadSource) = true)
    (lT_BadSource : K.lookup T_BadSource = some ⟨.type "tuple", ddT_BadSource, .seq #[.none] nT_BadSource, slT_BadSource⟩)
    (A_BadCount : PySem.W.nsIn K mainGlobals "BadCount" = some (some (.ref C_BadCount)))
    (X_BadCount : K.lookup C_BadCount = some (excClassObj nm_BadCount qn_BadCount C_BadCount N_BadCount bs_BadCount [.ref C_TalkError, .type "ValueError", .type "Exception", .type "BaseException", .type "object"] true sn_BadCount sub_BadCount ab_BadCount col_BadCount dd_BadCount m0_BadCount m1_BadCount m2_BadCount m3_BadCount m5_BadCount "ValueError.__new__"))
    (sa_BadCount : PySem.W.findIn K (.ref C_BadCount) "__setattr__" = some (some (.builtin "object.__setattr__")))
    (ga_BadCount : PySem.W.findIn K (.ref C_BadCount) "__getattribute__" = some (some (.builtin "BaseException.__getattribute__")))
    (gg_BadCount : PySem.W.findIn K (.ref C_BadCount) "__getattr__" = some none)
    (nW_BadCount : PySem.W.findIn K (.ref C_BadCount) "word" = some none)
    (nP_BadCount : PySem.W.findIn K (.ref C_BadCount) "place" = some none)
    (kC_BadCount : PySem.W.keepIn K (.ref C_BadCount) = true)
    (eC_BadCount : PySem.W.subIn K (.ref C_BadCount) (.type "BaseException") = some true)
    (tC_BadCount : PySem.W.typeIn K (.ref C_BadCount) = some (.type "type"))
    (hC_BadCount : PySem.W.hasDictIn K C_BadCount = true)
    (ca_BadCount : PySem.W.findIn K (.ref C_BadCount) "__class__" = some (some (.builtin "object.__class__")))
    (mo_BadCount : PySem.W.mroIn K C_BadCount (.type "object") = some true)
    (iI_BadCount : PySem.W.findIn K (.ref C_BadCount) "__init__" = some (some (.ref fI_BadCount)))
    (tI_BadCount : PySem.W.typeIn K (.ref fI_BadCount) = some (.type "function"))
    (lI_BadCount : K.lookup fI_BadCount = some ⟨oi_BadCount, oo_BadCount, .func (PySem.W.fnOf "__init__" "BadCount.__init__" (defArgs m_BadCount) (defBody m_BadCount) (defScope m_BadCount) (.ref T_BadCount) kv_BadCount dc_BadCount pm_BadCount an_BadCount cd_BadCount ct_BadCount), sl_BadCount⟩)
    (cI_BadCount : PySem.W.codeIn K cd_BadCount "BadCount.__init__" = true)
    (kI_BadCount : PySem.W.keepIn K (.ref fI_BadCount) = true)
    (lT_BadCount : K.lookup T_BadCount = some ⟨.type "tuple", ddT_BadCount, .seq #[.none] nT_BadCount, slT_BadCount⟩)
    (A_BadName : PySem.W.nsIn K mainGlobals "BadName" = some (some (.ref C_BadName)))
    (X_BadName : K.lookup C_BadName = some (excClassObj nm_BadName qn_BadName C_BadName N_BadName bs_BadName [.ref C_TalkError, .type "ValueError", .type "Exception", .type "BaseException", .type "object"] true sn_BadName sub_BadName ab_BadName col_BadName dd_BadName m0_BadName m1_BadName m2_BadName m3_BadName m5_BadName "ValueError.__new__"))
    (sa_BadName : PySem.W.findIn K (.ref C_BadName) "__setattr__" = some (some (.builtin "object.__setattr__")))
    (ga_BadName : PySem.W.findIn K (.ref C_BadName) "__getattribute__" = some (some (.builtin "BaseException.__getattribute__")))
    (gg_BadName : PySem.W.findIn K (.ref C_BadName) "__getattr__" = some none)
    (nW_BadName : PySem.W.findIn K (.ref C_BadName) "word" = some none)
    (nP_BadName : PySem.W.findIn K (.ref C_BadName) "place" = some none)
    (kC_BadName : PySem.W.keepIn K (.ref C_BadName) = true)
    (eC_BadName : PySem.W.subIn K (.ref C_BadName) (.type "BaseException") = some true)
    (tC_BadName : PySem.W.typeIn K (.ref C_BadName) = some (.type "type"))
    (hC_BadName : PySem.W.hasDictIn K C_BadName = true)
    (ca_BadName : PySem.W.findIn K (.ref C_BadName) "__class__" = some (some (.builtin "object.__class__")))
    (mo_BadName : PySem.W.mroIn K C_BadName (.type "object") = some true)
    (iI_BadName : PySem.W.findIn K (.ref C_BadName) "__init__" = some (some (.ref fI_BadName)))
    (tI_BadName : PySem.W.typeIn K (.ref fI_BadName) = some (.type "function"))
    (lI_BadName : K.lookup fI_BadName = some ⟨oi_BadName, oo_BadName, .func (PySem.W.fnOf "__init__" "BadName.__init__" (defArgs m_BadName) (defBody m_BadName) (defScope m_BadName) (.ref T_BadName) kv_BadName dc_BadName pm_BadName an_BadName cd_BadName ct_BadName), sl_BadName⟩)
    (cI_BadName : PySem.W.codeIn K cd_BadName "BadName.__init__" = true)
    (kI_BadName : PySem.W.keepIn K (.ref fI_BadName) = true)
    (lT_BadName : K.lookup T_BadName = some ⟨.type "tuple", ddT_BadName, .seq #[.none] nT_BadName, slT_BadName⟩)
    (A_DuplicateName : PySem.W.nsIn K mainGlobals "DuplicateName" = some (some (.ref C_DuplicateName)))
    (X_DuplicateName : K.lookup C_DuplicateName = some (excClassObj nm_DuplicateName qn_DuplicateName C_DuplicateName N_DuplicateName bs_DuplicateName [.ref C_TalkError, .type "ValueError", .type "Exception", .type "BaseException", .type "object"] true sn_DuplicateName sub_DuplicateName ab_DuplicateName col_DuplicateName dd_DuplicateName m0_DuplicateName m1_DuplicateName m2_DuplicateName m3_DuplicateName m5_DuplicateName "ValueError.__new__"))
    (sa_DuplicateName : PySem.W.findIn K (.ref C_DuplicateName) "__setattr__" = some (some (.builtin "object.__setattr__")))
    (ga_DuplicateName : PySem.W.findIn K (.ref C_DuplicateName) "__getattribute__" = some (some (.builtin "BaseException.__getattribute__")))
    (gg_DuplicateName : PySem.W.findIn K (.ref C_DuplicateName) "__getattr__" = some none)
    (nW_DuplicateName : PySem.W.findIn K (.ref C_DuplicateName) "word" = some none)
    (nP_DuplicateName : PySem.W.findIn K (.ref C_DuplicateName) "place" = some none)
    (kC_DuplicateName : PySem.W.keepIn K (.ref C_DuplicateName) = true)
    (eC_DuplicateName : PySem.W.subIn K (.ref C_DuplicateName) (.type "BaseException") = some true)
    (tC_DuplicateName : PySem.W.typeIn K (.ref C_DuplicateName) = some (.type "type"))
    (hC_DuplicateName : PySem.W.hasDictIn K C_DuplicateName = true)
    (ca_DuplicateName : PySem.W.findIn K (.ref C_DuplicateName) "__class__" = some (some (.builtin "object.__class__")))
    (mo_DuplicateName : PySem.W.mroIn K C_DuplicateName (.type "object") = some true)
    (iI_DuplicateName : PySem.W.findIn K (.ref C_DuplicateName) "__init__" = some (some (.ref fI_DuplicateName)))
    (tI_DuplicateName : PySem.W.typeIn K (.ref fI_DuplicateName) = some (.type "function"))
    (lI_DuplicateName : K.lookup fI_DuplicateName = some ⟨oi_DuplicateName, oo_DuplicateName, .func (PySem.W.fnOf "__init__" "DuplicateName.__init__" (defArgs m_DuplicateName) (defBody m_DuplicateName) (defScope m_DuplicateName) (.ref T_DuplicateName) kv_DuplicateName dc_DuplicateName pm_DuplicateName an_DuplicateName cd_DuplicateName ct_DuplicateName), sl_DuplicateName⟩)
    (cI_DuplicateName : PySem.W.codeIn K cd_DuplicateName "DuplicateName.__init__" = true)
    (kI_DuplicateName : PySem.W.keepIn K (.ref fI_DuplicateName) = true)
    (lT_DuplicateName : K.lookup T_DuplicateName = some ⟨.type "tuple", ddT_DuplicateName, .seq #[.none] nT_DuplicateName, slT_DuplicateName⟩)
    (z_abs : PySem.W.nsIn K mainGlobals "abs" = some none)
    (z_all : PySem.W.nsIn K mainGlobals "all" = some none)
    (z_enumerate : PySem.W.nsIn K mainGlobals "enumerate" = some none)
    (z_int : PySem.W.nsIn K mainGlobals "int" = some none)
    (z_isinstance : PySem.W.nsIn K mainGlobals "isinstance" = some none)
    (z_len : PySem.W.nsIn K mainGlobals "len" = some none)
    (z_list : PySem.W.nsIn K mainGlobals "list" = some none)
    (z_min : PySem.W.nsIn K mainGlobals "min" = some none)
    (z_range : PySem.W.nsIn K mainGlobals "range" = some none)
    (z_str : PySem.W.nsIn K mainGlobals "str" = some none)
    (z_sum : PySem.W.nsIn K mainGlobals "sum" = some none)
    (z_tuple : PySem.W.nsIn K mainGlobals "tuple" = some none)
    (q_NAME_MOST : PySem.W.nsIn K mainGlobals "NAME_MOST" = some (some (.int 12 t_NAME_MOST)))
    (q_LETTERS : PySem.W.nsIn K mainGlobals "LETTERS" = some (some (.str (PySem.Str.ofString "abcdefghijklmnopqrstuvwxyz") t_LETTERS)))
    (q_VALUES_MOST : PySem.W.nsIn K mainGlobals "VALUES_MOST" = some (some (.int 3 t_VALUES_MOST)))
    (q_KINDS_MOST : PySem.W.nsIn K mainGlobals "KINDS_MOST" = some (some (.int 6 t_KINDS_MOST)))
    (q_SIGNS_MOST : PySem.W.nsIn K mainGlobals "SIGNS_MOST" = some (some (.int 8 t_SIGNS_MOST)))
    (q_STARS_MOST : PySem.W.nsIn K mainGlobals "STARS_MOST" = some (some (.int 2 t_STARS_MOST)))
    (q_LENGTHS : PySem.W.nsIn K mainGlobals "LENGTHS" = some (some (.ref r_LENGTHS))) (p_LENGTHS : K.lookup r_LENGTHS = some ⟨.type "dict", none, .dict es_LENGTHS nn_LENGTHS, #[]⟩) (lo_LENGTHS : (r_LENGTHS == sysModules) = false) (te_LENGTHS : TabE w.params es_LENGTHS.toList [(PySem.Str.ofString "always", (1 : Int)), (PySem.Str.ofString "never", (1 : Int)), (PySem.Str.ofString "not", (2 : Int)), (PySem.Str.ofString "matches", (3 : Int)), (PySem.Str.ofString "same", (3 : Int)), (PySem.Str.ofString "empty", (2 : Int))])
    (q_DEPTH_MOST : PySem.W.nsIn K mainGlobals "DEPTH_MOST" = some (some (.int 6 t_DEPTH_MOST)))
    (q_NODES_MOST : PySem.W.nsIn K mainGlobals "NODES_MOST" = some (some (.int 20 t_NODES_MOST)))
    (q_TEXT_MOST : PySem.W.nsIn K mainGlobals "TEXT_MOST" = some (some (.int 8 t_TEXT_MOST)))
    (q_SOURCES_MOST : PySem.W.nsIn K mainGlobals "SOURCES_MOST" = some (some (.int 4 t_SOURCES_MOST)))
    (q_STATIONS_MOST : PySem.W.nsIn K mainGlobals "STATIONS_MOST" = some (some (.int 6 t_STATIONS_MOST)))
    (q_REGISTERS_MOST : PySem.W.nsIn K mainGlobals "REGISTERS_MOST" = some (some (.int 3 t_REGISTERS_MOST)))
    (q_RULES_MOST : PySem.W.nsIn K mainGlobals "RULES_MOST" = some (some (.int 40 t_RULES_MOST)))
    : ∃ fd : FuncData, (∀ (s : Shared) (v : Value), BindsTo s fd ⟨[v], []⟩ [("_law_script", v)]) ∧ ∀ base : Heap, K.In base → base.Ns mainGlobals mg → FnOk l.prog w K mg base (L2.CX l.prog w) 51 fa fd [(PySem.Str.ofString "_law_script")] (spLaw K) := by
  have e := hfa.symm.trans (PySem.W.mg_of X G a44)
  cases e
  have m_abs := PySem.W.mg_none_of X G z_abs
  have m_all := PySem.W.mg_none_of X G z_all
  have m_enumerate := PySem.W.mg_none_of X G z_enumerate
  have m_int := PySem.W.mg_none_of X G z_int
  have m_isinstance := PySem.W.mg_none_of X G z_isinstance
  have m_len := PySem.W.mg_none_of X G z_len
  have m_list := PySem.W.mg_none_of X G z_list
  have m_min := PySem.W.mg_none_of X G z_min
  have m_range := PySem.W.mg_none_of X G z_range
  have m_str := PySem.W.mg_none_of X G z_str
  have m_sum := PySem.W.mg_none_of X G z_sum
  have m_tuple := PySem.W.mg_none_of X G z_tuple
  have g_NAME_MOST : ∃ u, mg "NAME_MOST" = some u ∧ RelV (.int 12) u := ⟨_, PySem.W.mg_of X G q_NAME_MOST, ⟨_, rfl⟩⟩
  have g_LETTERS : ∃ u, mg "LETTERS" = some u ∧ RelV (.str (PySem.Str.ofString "abcdefghijklmnopqrstuvwxyz")) u := ⟨_, PySem.W.mg_of X G q_LETTERS, ⟨_, rfl⟩⟩
  have g_VALUES_MOST : ∃ u, mg "VALUES_MOST" = some u ∧ RelV (.int 3) u := ⟨_, PySem.W.mg_of X G q_VALUES_MOST, ⟨_, rfl⟩⟩
  have g_KINDS_MOST : ∃ u, mg "KINDS_MOST" = some u ∧ RelV (.int 6) u := ⟨_, PySem.W.mg_of X G q_KINDS_MOST, ⟨_, rfl⟩⟩
  have g_SIGNS_MOST : ∃ u, mg "SIGNS_MOST" = some u ∧ RelV (.int 8) u := ⟨_, PySem.W.mg_of X G q_SIGNS_MOST, ⟨_, rfl⟩⟩
  have g_STARS_MOST : ∃ u, mg "STARS_MOST" = some u ∧ RelV (.int 2) u := ⟨_, PySem.W.mg_of X G q_STARS_MOST, ⟨_, rfl⟩⟩
  have g_LENGTHS : KTab K w mg "LENGTHS" [(PySem.Str.ofString "always", (1 : Int)), (PySem.Str.ofString "never", (1 : Int)), (PySem.Str.ofString "not", (2 : Int)), (PySem.Str.ofString "matches", (3 : Int)), (PySem.Str.ofString "same", (3 : Int)), (PySem.Str.ofString "empty", (2 : Int))] := ktab_mk (PySem.W.mg_of X G q_LENGTHS) p_LENGTHS lo_LENGTHS te_LENGTHS
  have g_DEPTH_MOST : ∃ u, mg "DEPTH_MOST" = some u ∧ RelV (.int 6) u := ⟨_, PySem.W.mg_of X G q_DEPTH_MOST, ⟨_, rfl⟩⟩
  have g_NODES_MOST : ∃ u, mg "NODES_MOST" = some u ∧ RelV (.int 20) u := ⟨_, PySem.W.mg_of X G q_NODES_MOST, ⟨_, rfl⟩⟩
  have g_TEXT_MOST : ∃ u, mg "TEXT_MOST" = some u ∧ RelV (.int 8) u := ⟨_, PySem.W.mg_of X G q_TEXT_MOST, ⟨_, rfl⟩⟩
  have g_SOURCES_MOST : ∃ u, mg "SOURCES_MOST" = some u ∧ RelV (.int 4) u := ⟨_, PySem.W.mg_of X G q_SOURCES_MOST, ⟨_, rfl⟩⟩
  have g_STATIONS_MOST : ∃ u, mg "STATIONS_MOST" = some u ∧ RelV (.int 6) u := ⟨_, PySem.W.mg_of X G q_STATIONS_MOST, ⟨_, rfl⟩⟩
  have g_REGISTERS_MOST : ∃ u, mg "REGISTERS_MOST" = some u ∧ RelV (.int 3) u := ⟨_, PySem.W.mg_of X G q_REGISTERS_MOST, ⟨_, rfl⟩⟩
  have g_RULES_MOST : ∃ u, mg "RULES_MOST" = some u ∧ RelV (.int 40) u := ⟨_, PySem.W.mg_of X G q_RULES_MOST, ⟨_, rfl⟩⟩
  have F1 := fun_mk (st := s__law_deck) l1 c1 k1
  have F2 := fun_mk (st := s__law_draw) l2 c2 k2
  have F3 := fun_mk (st := s__law_letter) l3 c3 k3
  have F4 := fun_mk (st := s__law_text) l4 c4 k4
  have F5 := fun_mk (st := s__law_names) l5 c5 k5
  have F6 := fun_mk (st := s__law_pattern) l6 c6 k6
  have F7 := fun_mk (st := s__law_part) l7 c7 k7
  have F8 := fun_mk (st := s__law_condition) l8 c8 k8
  have F9 := fun_mk (st := s__law_source) l9 c9 k9
  have F10 := fun_mk (st := s__law_line) l10 c10 k10
  have F11 := fun_mk (st := s__law_rule) l11 c11 k11
  have F12 := fun_mk (st := s__law_service) l12 c12 k12
  have F13 := fun_mk (st := s_is_name) l13 c13 k13
  have F14 := fun_mk (st := s_check_names) l14 c14 k14
  have F15 := fun_mk (st := s_is_kind) l15 c15 k15
  have F16 := funX_mk (st := s_check_kinds) l16 c16
  have D16 := funD_mk (st := s_check_kinds) (dvs := [.ref U16_0]) l16 c16 k16 lT16 (.cons rfl .nil) (by simp)
  have F17 := fun_mk (st := s_check_name) l17 c17 k17
  have F18 := fun_mk (st := s_is_pattern) l18 c18 k18
  have F19 := fun_mk (st := s_check_node) l19 c19 k19
  have F20 := fun_mk (st := s_parts_of) l20 c20 k20
  have F21 := fun_mk (st := s_check_parts) l21 c21 k21
  have F22 := fun_mk (st := s_size_of) l22 c22 k22
  have F23 := fun_mk (st := s_check_condition) l23 c23 k23
  have F24 := fun_mk (st := s_is_text) l24 c24 k24
  have F25 := fun_mk (st := s_check_source) l25 c25 k25
  have F26 := fun_mk (st := s_check_answer) l26 c26 k26
  have F27 := fun_mk (st := s_check_line) l27 c27 k27
  have F28 := fun_mk (st := s_value_names) l28 c28 k28
  have F29 := fun_mk (st := s_check_rule) l29 c29 k29
  have F30 := fun_mk (st := s_Service_m_init) l30 c30 k30
  have F31 := fun_mk (st := s__law_text_of) l31 c31 k31
  have F32 := fun_mk (st := s__law_words_of_condition) l32 c32 k32
  have F33 := fun_mk (st := s__law_words_of_line) l33 c33 k33
  have F34 := fun_mk (st := s__law_line_of_rule) l34 c34 k34
  have F35 := fun_mk (st := s__law_lines) l35 c35 k35
  have F36 := fun_mk (st := s_format_condition) l36 c36 k36
  have F37 := fun_mk (st := s_format_line) l37 c37 k37
  have F38 := fun_mk (st := s_format_rule) l38 c38 k38
  have F39 := fun_mk (st := s_Service_p_stations) l39 c39 k39
  have F40 := fun_mk (st := s_Service_p_registers) l40 c40 k40
  have F41 := fun_mk (st := s_Service_p_requests) l41 c41 k41
  have F42 := fun_mk (st := s_Service_p_rules) l42 c42 k42
  have F43 := fun_mk (st := s_format_service) l43 c43 k43
  have F44 := fun_mk (st := s_law) l44 c44 k44
  refine ⟨PySem.W.fnOf "law" "law" (defArgs s_law) (defBody s_law) (defScope s_law) .none kV44 dc44 pm44 an44 cd44 ct44, fun s v => .of_eq rfl, fun base Xb Gb => ?_⟩
  have E_TalkError := ek_mk (PySem.W.mg_of X G A_TalkError) X_TalkError rfl sa_TalkError ga_TalkError gg_TalkError nW_TalkError nP_TalkError kC_TalkError eC_TalkError tC_TalkError hC_TalkError ca_TalkError hn_TalkError ht_TalkError mo_TalkError
  have E_BadPattern := ek_mk (PySem.W.mg_of X G A_BadPattern) X_BadPattern rfl sa_BadPattern ga_BadPattern gg_BadPattern nW_BadPattern nP_BadPattern kC_BadPattern eC_BadPattern tC_BadPattern hC_BadPattern ca_BadPattern hn_TalkError ht_TalkError mo_BadPattern
  have E_BadKinds := ek_mk (PySem.W.mg_of X G A_BadKinds) X_BadKinds rfl sa_BadKinds ga_BadKinds gg_BadKinds nW_BadKinds nP_BadKinds kC_BadKinds eC_BadKinds tC_BadKinds hC_BadKinds ca_BadKinds hn_TalkError ht_TalkError mo_BadKinds
  have E_BadCondition := ek_mk (PySem.W.mg_of X G A_BadCondition) X_BadCondition rfl sa_BadCondition ga_BadCondition gg_BadCondition nW_BadCondition nP_BadCondition kC_BadCondition eC_BadCondition tC_BadCondition hC_BadCondition ca_BadCondition hn_TalkError ht_TalkError mo_BadCondition
  have E_UnknownName := ek_mk (PySem.W.mg_of X G A_UnknownName) X_UnknownName rfl sa_UnknownName ga_UnknownName gg_UnknownName nW_UnknownName nP_UnknownName kC_UnknownName eC_UnknownName tC_UnknownName hC_UnknownName ca_UnknownName hn_TalkError ht_TalkError mo_UnknownName
  have E_UnknownStation := ek_mk (PySem.W.mg_of X G A_UnknownStation) X_UnknownStation rfl sa_UnknownStation ga_UnknownStation gg_UnknownStation nW_UnknownStation nP_UnknownStation kC_UnknownStation eC_UnknownStation tC_UnknownStation hC_UnknownStation ca_UnknownStation hn_TalkError ht_TalkError mo_UnknownStation
  have E_UnknownRequest := ek_mk (PySem.W.mg_of X G A_UnknownRequest) X_UnknownRequest rfl sa_UnknownRequest ga_UnknownRequest gg_UnknownRequest nW_UnknownRequest nP_UnknownRequest kC_UnknownRequest eC_UnknownRequest tC_UnknownRequest hC_UnknownRequest ca_UnknownRequest hn_TalkError ht_TalkError mo_UnknownRequest
  have E_BadRule := ek_mk (PySem.W.mg_of X G A_BadRule) X_BadRule rfl sa_BadRule ga_BadRule gg_BadRule nW_BadRule nP_BadRule kC_BadRule eC_BadRule tC_BadRule hC_BadRule ca_BadRule hn_TalkError ht_TalkError mo_BadRule
  have E_BadSource := ek_mk (PySem.W.mg_of X G A_BadSource) X_BadSource rfl sa_BadSource ga_BadSource gg_BadSource nW_BadSource nP_BadSource kC_BadSource eC_BadSource tC_BadSource hC_BadSource ca_BadSource hn_TalkError ht_TalkError mo_BadSource
  have E_BadCount := ek_mk (PySem.W.mg_of X G A_BadCount) X_BadCount rfl sa_BadCount ga_BadCount gg_BadCount nW_BadCount nP_BadCount kC_BadCount eC_BadCount tC_BadCount hC_BadCount ca_BadCount hn_TalkError ht_TalkError mo_BadCount
  have E_BadName := ek_mk (PySem.W.mg_of X G A_BadName) X_BadName rfl sa_BadName ga_BadName gg_BadName nW_BadName nP_BadName kC_BadName eC_BadName tC_BadName hC_BadName ca_BadName hn_TalkError ht_TalkError mo_BadName
  have E_DuplicateName := ek_mk (PySem.W.mg_of X G A_DuplicateName) X_DuplicateName rfl sa_DuplicateName ga_DuplicateName gg_DuplicateName nW_DuplicateName nP_DuplicateName kC_DuplicateName eC_DuplicateName tC_DuplicateName hC_DuplicateName ca_DuplicateName hn_TalkError ht_TalkError mo_DuplicateName
  have D_TalkError := funD_mk (st := m_TalkError) (dvs := [.non]) lI_TalkError cI_TalkError kI_TalkError lT_TalkError (.cons rfl .nil) (by simp)
  have D_BadPattern := funD_mk (st := m_BadPattern) (dvs := [.non]) lI_BadPattern cI_BadPattern kI_BadPattern lT_BadPattern (.cons rfl .nil) (by simp)
  have D_BadKinds := funD_mk (st := m_BadKinds) (dvs := [.non]) lI_BadKinds cI_BadKinds kI_BadKinds lT_BadKinds (.cons rfl .nil) (by simp)
  have D_BadCondition := funD_mk (st := m_BadCondition) (dvs := [.non]) lI_BadCondition cI_BadCondition kI_BadCondition lT_BadCondition (.cons rfl .nil) (by simp)
  have D_UnknownName := funD_mk (st := m_UnknownName) (dvs := [.non]) lI_UnknownName cI_UnknownName kI_UnknownName lT_UnknownName (.cons rfl .nil) (by simp)
  have D_UnknownStation := funD_mk (st := m_UnknownStation) (dvs := [.non]) lI_UnknownStation cI_UnknownStation kI_UnknownStation lT_UnknownStation (.cons rfl .nil) (by simp)
  have D_UnknownRequest := funD_mk (st := m_UnknownRequest) (dvs := [.non]) lI_UnknownRequest cI_UnknownRequest kI_UnknownRequest lT_UnknownRequest (.cons rfl .nil) (by simp)
  have D_BadRule := funD_mk (st := m_BadRule) (dvs := [.non]) lI_BadRule cI_BadRule kI_BadRule lT_BadRule (.cons rfl .nil) (by simp)
  have D_BadSource := funD_mk (st := m_BadSource) (dvs := [.non]) lI_BadSource cI_BadSource kI_BadSource lT_BadSource (.cons rfl .nil) (by simp)
  have D_BadCount := funD_mk (st := m_BadCount) (dvs := [.non]) lI_BadCount cI_BadCount kI_BadCount lT_BadCount (.cons rfl .nil) (by simp)
  have D_BadName := funD_mk (st := m_BadName) (dvs := [.non]) lI_BadName cI_BadName kI_BadName lT_BadName (.cons rfl .nil) (by simp)
  have D_DuplicateName := funD_mk (st := m_DuplicateName) (dvs := [.non]) lI_DuplicateName cI_DuplicateName kI_DuplicateName lT_DuplicateName (.cons rfl .nil) (by simp)
  have o_init_TalkError := ok_init_TalkError (P := l.prog) (w := w) (mg := mg) (base := base) (funX_mk (st := m_TalkError) lI_TalkError cI_TalkError)
  have E0 := er0_mk (PySem.W.mg_of X G A_TalkError) rd_TalkError sg_TalkError cf_TalkError kI_TalkError o_init_TalkError (D_TalkError.binds1 (ps := ["self", "word", "place"]) 3 1 (by simp) rfl fun T kV doc pm an cdv ct us its l1 l2 => match us, l1, its, l2 with | [_, _, _], _, [_], _ => ⟨_, rfl, rfl⟩)
  have o_init_BadPattern := ok_init_BadPattern (P := l.prog) (w := w) (mg := mg) (base := base) (funX_mk (st := m_BadPattern) lI_BadPattern cI_BadPattern) E0
  have e_BadPattern := er_mk E_BadPattern.er iI_BadPattern tI_BadPattern (PySem.W.mg_of X G A_BadPattern) o_init_BadPattern (D_BadPattern.binds1 (ps := ["self", "place"]) 2 1 (by simp) rfl fun T kV doc pm an cdv ct us its l1 l2 => match us, l1, its, l2 with | [_, _], _, [_], _ => ⟨_, rfl, rfl⟩) (D_BadPattern.binds1 (ps := ["self", "place"]) 1 0 (by simp) rfl fun T kV doc pm an cdv ct us its l1 l2 => match us, l1, its, l2 with | [_], _, [_], _ => ⟨_, rfl, rfl⟩)
  have o_init_BadKinds := ok_init_BadKinds (P := l.prog) (w := w) (mg := mg) (base := base) (funX_mk (st := m_BadKinds) lI_BadKinds cI_BadKinds) E0
  have e_BadKinds := er_mk E_BadKinds.er iI_BadKinds tI_BadKinds (PySem.W.mg_of X G A_BadKinds) o_init_BadKinds (D_BadKinds.binds1 (ps := ["self", "place"]) 2 1 (by simp) rfl fun T kV doc pm an cdv ct us its l1 l2 => match us, l1, its, l2 with | [_, _], _, [_], _ => ⟨_, rfl, rfl⟩) (D_BadKinds.binds1 (ps := ["self", "place"]) 1 0 (by simp) rfl fun T kV doc pm an cdv ct us its l1 l2 => match us, l1, its, l2 with | [_], _, [_], _ => ⟨_, rfl, rfl⟩)
  have o_init_BadCondition := ok_init_BadCondition (P := l.prog) (w := w) (mg := mg) (base := base) (funX_mk (st := m_BadCondition) lI_BadCondition cI_BadCondition) E0
  have e_BadCondition := er_mk E_BadCondition.er iI_BadCondition tI_BadCondition (PySem.W.mg_of X G A_BadCondition) o_init_BadCondition (D_BadCondition.binds1 (ps := ["self", "place"]) 2 1 (by simp) rfl fun T kV doc pm an cdv ct us its l1 l2 => match us, l1, its, l2 with | [_, _], _, [_], _ => ⟨_, rfl, rfl⟩) (D_BadCondition.binds1 (ps := ["self", "place"]) 1 0 (by simp) rfl fun T kV doc pm an cdv ct us its l1 l2 => match us, l1, its, l2 with | [_], _, [_], _ => ⟨_, rfl, rfl⟩)
  have o_init_UnknownName := ok_init_UnknownName (P := l.prog) (w := w) (mg := mg) (base := base) (funX_mk (st := m_UnknownName) lI_UnknownName cI_UnknownName) E0
  have e_UnknownName := er_mk E_UnknownName.er iI_UnknownName tI_UnknownName (PySem.W.mg_of X G A_UnknownName) o_init_UnknownName (D_UnknownName.binds1 (ps := ["self", "place"]) 2 1 (by simp) rfl fun T kV doc pm an cdv ct us its l1 l2 => match us, l1, its, l2 with | [_, _], _, [_], _ => ⟨_, rfl, rfl⟩) (D_UnknownName.binds1 (ps := ["self", "place"]) 1 0 (by simp) rfl fun T kV doc pm an cdv ct us its l1 l2 => match us, l1, its, l2 with | [_], _, [_], _ => ⟨_, rfl, rfl⟩)
  have o_init_UnknownStation := ok_init_UnknownStation (P := l.prog) (w := w) (mg := mg) (base := base) (funX_mk (st := m_UnknownStation) lI_UnknownStation cI_UnknownStation) E0
  have e_UnknownStation := er_mk E_UnknownStation.er iI_UnknownStation tI_UnknownStation (PySem.W.mg_of X G A_UnknownStation) o_init_UnknownStation (D_UnknownStation.binds1 (ps := ["self", "place"]) 2 1 (by simp) rfl fun T kV doc pm an cdv ct us its l1 l2 => match us, l1, its, l2 with | [_, _], _, [_], _ => ⟨_, rfl, rfl⟩) (D_UnknownStation.binds1 (ps := ["self", "place"]) 1 0 (by simp) rfl fun T kV doc pm an cdv ct us its l1 l2 => match us, l1, its, l2 with | [_], _, [_], _ => ⟨_, rfl, rfl⟩)
  have o_init_UnknownRequest := ok_init_UnknownRequest (P := l.prog) (w := w) (mg := mg) (base := base) (funX_mk (st := m_UnknownRequest) lI_UnknownRequest cI_UnknownRequest) E0
  have e_UnknownRequest := er_mk E_UnknownRequest.er iI_UnknownRequest tI_UnknownRequest (PySem.W.mg_of X G A_UnknownRequest) o_init_UnknownRequest (D_UnknownRequest.binds1 (ps := ["self", "place"]) 2 1 (by simp) rfl fun T kV doc pm an cdv ct us its l1 l2 => match us, l1, its, l2 with | [_, _], _, [_], _ => ⟨_, rfl, rfl⟩) (D_UnknownRequest.binds1 (ps := ["self", "place"]) 1 0 (by simp) rfl fun T kV doc pm an cdv ct us its l1 l2 => match us, l1, its, l2 with | [_], _, [_], _ => ⟨_, rfl, rfl⟩)
  have o_init_BadRule := ok_init_BadRule (P := l.prog) (w := w) (mg := mg) (base := base) (funX_mk (st := m_BadRule) lI_BadRule cI_BadRule) E0
  have e_BadRule := er_mk E_BadRule.er iI_BadRule tI_BadRule (PySem.W.mg_of X G A_BadRule) o_init_BadRule (D_BadRule.binds1 (ps := ["self", "place"]) 2 1 (by simp) rfl fun T kV doc pm an cdv ct us its l1 l2 => match us, l1, its, l2 with | [_, _], _, [_], _ => ⟨_, rfl, rfl⟩) (D_BadRule.binds1 (ps := ["self", "place"]) 1 0 (by simp) rfl fun T kV doc pm an cdv ct us its l1 l2 => match us, l1, its, l2 with | [_], _, [_], _ => ⟨_, rfl, rfl⟩)
  have o_init_BadSource := ok_init_BadSource (P := l.prog) (w := w) (mg := mg) (base := base) (funX_mk (st := m_BadSource) lI_BadSource cI_BadSource) E0
  have e_BadSource := er_mk E_BadSource.er iI_BadSource tI_BadSource (PySem.W.mg_of X G A_BadSource) o_init_BadSource (D_BadSource.binds1 (ps := ["self", "place"]) 2 1 (by simp) rfl fun T kV doc pm an cdv ct us its l1 l2 => match us, l1, its, l2 with | [_, _], _, [_], _ => ⟨_, rfl, rfl⟩) (D_BadSource.binds1 (ps := ["self", "place"]) 1 0 (by simp) rfl fun T kV doc pm an cdv ct us its l1 l2 => match us, l1, its, l2 with | [_], _, [_], _ => ⟨_, rfl, rfl⟩)
  have o_init_BadCount := ok_init_BadCount (P := l.prog) (w := w) (mg := mg) (base := base) (funX_mk (st := m_BadCount) lI_BadCount cI_BadCount) E0
  have e_BadCount := er_mk E_BadCount.er iI_BadCount tI_BadCount (PySem.W.mg_of X G A_BadCount) o_init_BadCount (D_BadCount.binds1 (ps := ["self", "place"]) 2 1 (by simp) rfl fun T kV doc pm an cdv ct us its l1 l2 => match us, l1, its, l2 with | [_, _], _, [_], _ => ⟨_, rfl, rfl⟩) (D_BadCount.binds1 (ps := ["self", "place"]) 1 0 (by simp) rfl fun T kV doc pm an cdv ct us its l1 l2 => match us, l1, its, l2 with | [_], _, [_], _ => ⟨_, rfl, rfl⟩)
  have o_init_BadName := ok_init_BadName (P := l.prog) (w := w) (mg := mg) (base := base) (funX_mk (st := m_BadName) lI_BadName cI_BadName) E0
  have e_BadName := er_mk E_BadName.er iI_BadName tI_BadName (PySem.W.mg_of X G A_BadName) o_init_BadName (D_BadName.binds1 (ps := ["self", "place"]) 2 1 (by simp) rfl fun T kV doc pm an cdv ct us its l1 l2 => match us, l1, its, l2 with | [_, _], _, [_], _ => ⟨_, rfl, rfl⟩) (D_BadName.binds1 (ps := ["self", "place"]) 1 0 (by simp) rfl fun T kV doc pm an cdv ct us its l1 l2 => match us, l1, its, l2 with | [_], _, [_], _ => ⟨_, rfl, rfl⟩)
  have o_init_DuplicateName := ok_init_DuplicateName (P := l.prog) (w := w) (mg := mg) (base := base) (funX_mk (st := m_DuplicateName) lI_DuplicateName cI_DuplicateName) E0
  have e_DuplicateName := er_mk E_DuplicateName.er iI_DuplicateName tI_DuplicateName (PySem.W.mg_of X G A_DuplicateName) o_init_DuplicateName (D_DuplicateName.binds1 (ps := ["self", "place"]) 2 1 (by simp) rfl fun T kV doc pm an cdv ct us its l1 l2 => match us, l1, its, l2 with | [_, _], _, [_], _ => ⟨_, rfl, rfl⟩) (D_DuplicateName.binds1 (ps := ["self", "place"]) 1 0 (by simp) rfl fun T kV doc pm an cdv ct us its l1 l2 => match us, l1, its, l2 with | [_], _, [_], _ => ⟨_, rfl, rfl⟩)
  have f_Service : FldC K "Service" [(PySem.Str.ofString "_registers"), (PySem.Str.ofString "_requests"), (PySem.Str.ofString "_rules"), (PySem.Str.ofString "_stations")] := ⟨fun C' hC' => by
    obtain rfl := ClsN.one A_Service hC'
    refine ⟨⟨pg_Service, hd_Service, po_Service, sa_Service⟩, fun f hf => ?_⟩
    simp only [List.mem_cons, List.not_mem_nil, or_false] at hf
    rcases hf with rfl | rfl | rfl | rfl
    · exact n0_Service
    · exact n1_Service
    · exact n2_Service
    · exact n3_Service⟩
  have o__law_deck := ok__law_deck (P := l.prog) (w := w) (mg := mg) (base := base) F1 m_int m_list
  have c__law_deck : Cl l.prog w K mg base 1 "_law_deck" 1 F__law_deck [] := cl_mk o__law_deck (PySem.W.mg_of X G a1) k1 (F1.binds fun _ _ _ _ _ _ us hl => match us, hl with | [_], _ => rfl)
  have o__law_draw := ok__law_draw (P := l.prog) (w := w) (mg := mg) (base := base) F2 m_abs m_int m_len
  have c__law_draw : Cl l.prog w K mg base 1 "_law_draw" 2 F__law_draw [] := cl_mk o__law_draw (PySem.W.mg_of X G a2) k2 (F2.binds fun _ _ _ _ _ _ us hl => match us, hl with | [_, _], _ => rfl)
  have o__law_letter := ok__law_letter (P := l.prog) (w := w) (mg := mg) (base := base) F3 c__law_draw
  have c__law_letter : Cl l.prog w K mg base 2 "_law_letter" 1 F__law_letter [] := cl_mk o__law_letter (PySem.W.mg_of X G a3) k3 (F3.binds fun _ _ _ _ _ _ us hl => match us, hl with | [_], _ => rfl)
  have o__law_text := ok__law_text (P := l.prog) (w := w) (mg := mg) (base := base) F4 c__law_draw c__law_letter m_range
  have c__law_text : Cl l.prog w K mg base 3 "_law_text" 2 F__law_text [] := cl_mk o__law_text (PySem.W.mg_of X G a4) k4 (F4.binds fun _ _ _ _ _ _ us hl => match us, hl with | [_, _], _ => rfl)
  have o__law_names := ok__law_names (P := l.prog) (w := w) (mg := mg) (base := base) F5 c__law_letter c__law_text m_int m_range
  have c__law_names : Cl l.prog w K mg base 4 "_law_names" 3 F__law_names [] := cl_mk o__law_names (PySem.W.mg_of X G a5) k5 (F5.binds fun _ _ _ _ _ _ us hl => match us, hl with | [_, _, _], _ => rfl)
  have o__law_pattern := ok__law_pattern (P := l.prog) (w := w) (mg := mg) (base := base) F6 c__law_draw c__law_letter m_range
  have c__law_pattern : Cl l.prog w K mg base 3 "_law_pattern" 1 F__law_pattern [] := cl_mk o__law_pattern (PySem.W.mg_of X G a6) k6 (F6.binds fun _ _ _ _ _ _ us hl => match us, hl with | [_], _ => rfl)
  have o__law_part := ok__law_part (P := l.prog) (w := w) (mg := mg) (base := base) F7 (PySem.W.mg_of X G a7) k7 c__law_draw c__law_pattern m_len m_min m_range m_tuple 40
  have c__law_part : Cl l.prog w K mg base 44 "_law_part" 4 (Lw.F__law_part 40) [] := cl_mk o__law_part (PySem.W.mg_of X G a7) k7 (F7.binds fun _ _ _ _ _ _ us hl => match us, hl with | [_, _, _, _], _ => rfl)
  have o__law_condition := ok__law_condition (P := l.prog) (w := w) (mg := mg) (base := base) F8 c__law_part
  have c__law_condition : Cl l.prog w K mg base 45 "_law_condition" 4 F__law_condition [] := cl_mk o__law_condition (PySem.W.mg_of X G a8) k8 (F8.binds fun _ _ _ _ _ _ us hl => match us, hl with | [_, _, _, _], _ => rfl)
  have o__law_source := ok__law_source (P := l.prog) (w := w) (mg := mg) (base := base) F9 c__law_draw c__law_text m_len
  have c__law_source : Cl l.prog w K mg base 4 "_law_source" 2 F__law_source [] := cl_mk o__law_source (PySem.W.mg_of X G a9) k9 (F9.binds fun _ _ _ _ _ _ us hl => match us, hl with | [_, _], _ => rfl)
  have o__law_line := ok__law_line (P := l.prog) (w := w) (mg := mg) (base := base) F10 c__law_draw c__law_source
  have c__law_line : Cl l.prog w K mg base 5 "_law_line" 2 F__law_line [] := cl_mk o__law_line (PySem.W.mg_of X G a10) k10 (F10.binds fun _ _ _ _ _ _ us hl => match us, hl with | [_, _], _ => rfl)
  have o__law_rule := ok__law_rule (P := l.prog) (w := w) (mg := mg) (base := base) F11 c__law_condition c__law_draw c__law_letter c__law_line c__law_source c__law_text m_len m_list m_range m_tuple
  have c__law_rule : Cl l.prog w K mg base 46 "_law_rule" 5 F__law_rule [] := cl_mk o__law_rule (PySem.W.mg_of X G a11) k11 (F11.binds fun _ _ _ _ _ _ us hl => match us, hl with | [_, _, _, _, _], _ => rfl)
  have o__law_service := ok__law_service (P := l.prog) (w := w) (mg := mg) (base := base) F12 c__law_draw c__law_names c__law_rule m_range m_tuple
  have c__law_service : Cl l.prog w K mg base 47 "_law_service" 1 F__law_service [] := cl_mk o__law_service (PySem.W.mg_of X G a12) k12 (F12.binds fun _ _ _ _ _ _ us hl => match us, hl with | [_], _ => rfl)
  have o_is_name := ok_is_name (P := l.prog) (w := w) (mg := mg) (base := base) F13 g_LETTERS g_NAME_MOST m_all m_isinstance m_len m_str
  have c_is_name : Cl l.prog w K mg base 1 "is_name" 1 F_is_name [] := cl_mk o_is_name (PySem.W.mg_of X G a13) k13 (F13.binds fun _ _ _ _ _ _ us hl => match us, hl with | [_], _ => rfl)
  have o_check_names := ok_check_names (P := l.prog) (w := w) (mg := mg) (base := base) F14 c_is_name e_BadName e_DuplicateName m_enumerate
  have c_check_names : Cl l.prog w K mg base 4 "check_names" 1 F_check_names [] := cl_mk o_check_names (PySem.W.mg_of X G a14) k14 (F14.binds fun _ _ _ _ _ _ us hl => match us, hl with | [_], _ => rfl)
  have o_is_kind := ok_is_kind (P := l.prog) (w := w) (mg := mg) (base := base) F15 c_is_name g_VALUES_MOST m_all m_len m_range
  have c_is_kind : Cl l.prog w K mg base 2 "is_kind" 2 F_is_kind [] := cl_mk o_is_kind (PySem.W.mg_of X G a15) k15 (F15.binds fun _ _ _ _ _ _ us hl => match us, hl with | [_, _], _ => rfl)
  have o_check_kinds := ok_check_kinds (P := l.prog) (w := w) (mg := mg) (base := base) F16 c_is_kind e_BadKinds g_KINDS_MOST m_len m_range
  have c_check_kinds : Cl l.prog w K mg base 4 "check_kinds" 2 F_check_kinds [] := cl_mkD o_check_kinds (PySem.W.mg_of X G a16) k16 (D16.binds1 (ps := ["kinds", "registers"]) 2 1 (by simp) rfl fun T kV doc pm an cdv ct us its l1 l2 => match us, l1, its, l2 with | [_, _], _, [_], _ => ⟨_, rfl, rfl⟩) (fun B => .nil)
  have o_check_name := ok_check_name (P := l.prog) (w := w) (mg := mg) (base := base) F17 e_UnknownName
  have c_check_name : Cl l.prog w K mg base 4 "check_name" 2 F_check_name [] := cl_mk o_check_name (PySem.W.mg_of X G a17) k17 (F17.binds fun _ _ _ _ _ _ us hl => match us, hl with | [_, _], _ => rfl)
  have o_is_pattern := ok_is_pattern (P := l.prog) (w := w) (mg := mg) (base := base) F18 g_LETTERS g_SIGNS_MOST g_STARS_MOST m_all m_isinstance m_len m_str
  have c_is_pattern : Cl l.prog w K mg base 1 "is_pattern" 1 F_is_pattern [] := cl_mk o_is_pattern (PySem.W.mg_of X G a18) k18 (F18.binds fun _ _ _ _ _ _ us hl => match us, hl with | [_], _ => rfl)
  have o_check_node := ok_check_node (P := l.prog) (w := w) (mg := mg) (base := base) F19 c_check_name c_is_pattern e_BadCondition e_BadPattern g_LENGTHS m_isinstance m_len m_str m_tuple
  have c_check_node : Cl l.prog w K mg base 5 "check_node" 3 F_check_node [] := cl_mk o_check_node (PySem.W.mg_of X G a19) k19 (F19.binds fun _ _ _ _ _ _ us hl => match us, hl with | [_, _, _], _ => rfl)
  have o_parts_of := ok_parts_of (P := l.prog) (w := w) (mg := mg) (base := base) F20 
  have c_parts_of : Cl l.prog w K mg base 1 "parts_of" 1 F_parts_of [] := cl_mk o_parts_of (PySem.W.mg_of X G a20) k20 (F20.binds fun _ _ _ _ _ _ us hl => match us, hl with | [_], _ => rfl)
  have o_check_parts := ok_check_parts (P := l.prog) (w := w) (mg := mg) (base := base) F21 (PySem.W.mg_of X G a21) k21 c_check_node c_parts_of e_BadCondition 40
  have c_check_parts : Cl l.prog w K mg base 46 "check_parts" 4 (Lw.F_check_parts 40) [] := cl_mk o_check_parts (PySem.W.mg_of X G a21) k21 (F21.binds fun _ _ _ _ _ _ us hl => match us, hl with | [_, _, _, _], _ => rfl)
  have o_size_of := ok_size_of (P := l.prog) (w := w) (mg := mg) (base := base) F22 (PySem.W.mg_of X G a22) k22 c_parts_of m_sum 40
  have c_size_of : Cl l.prog w K mg base 42 "size_of" 1 (Lw.F_size_of 40) [] := cl_mk o_size_of (PySem.W.mg_of X G a22) k22 (F22.binds fun _ _ _ _ _ _ us hl => match us, hl with | [_], _ => rfl)
  have o_check_condition := ok_check_condition (P := l.prog) (w := w) (mg := mg) (base := base) F23 c_check_parts c_size_of e_BadCondition g_DEPTH_MOST g_NODES_MOST
  have c_check_condition : Cl l.prog w K mg base 47 "check_condition" 3 F_check_condition [] := cl_mk o_check_condition (PySem.W.mg_of X G a23) k23 (F23.binds fun _ _ _ _ _ _ us hl => match us, hl with | [_, _, _], _ => rfl)
  have o_is_text := ok_is_text (P := l.prog) (w := w) (mg := mg) (base := base) F24 g_LETTERS m_all m_isinstance m_str
  have c_is_text : Cl l.prog w K mg base 1 "is_text" 1 F_is_text [] := cl_mk o_is_text (PySem.W.mg_of X G a24) k24 (F24.binds fun _ _ _ _ _ _ us hl => match us, hl with | [_], _ => rfl)
  have o_check_source := ok_check_source (P := l.prog) (w := w) (mg := mg) (base := base) F25 c_check_name c_is_text e_BadSource g_TEXT_MOST m_isinstance m_len m_tuple
  have c_check_source : Cl l.prog w K mg base 5 "check_source" 2 F_check_source [] := cl_mk o_check_source (PySem.W.mg_of X G a25) k25 (F25.binds fun _ _ _ _ _ _ us hl => match us, hl with | [_, _], _ => rfl)
  have o_check_answer := ok_check_answer (P := l.prog) (w := w) (mg := mg) (base := base) F26 c_check_source c_is_name e_BadName e_BadRule g_SOURCES_MOST m_isinstance m_len m_tuple
  have c_check_answer : Cl l.prog w K mg base 6 "check_answer" 2 F_check_answer [] := cl_mk o_check_answer (PySem.W.mg_of X G a26) k26 (F26.binds fun _ _ _ _ _ _ us hl => match us, hl with | [_, _], _ => rfl)
  have o_check_line := ok_check_line (P := l.prog) (w := w) (mg := mg) (base := base) F27 c_check_source
  have c_check_line : Cl l.prog w K mg base 6 "check_line" 2 F_check_line [] := cl_mk o_check_line (PySem.W.mg_of X G a27) k27 (F27.binds fun _ _ _ _ _ _ us hl => match us, hl with | [_, _], _ => rfl)
  have o_value_names := ok_value_names (P := l.prog) (w := w) (mg := mg) (base := base) F28 e_UnknownRequest m_list
  have c_value_names : Cl l.prog w K mg base 4 "value_names" 2 F_value_names [] := cl_mk o_value_names (PySem.W.mg_of X G a28) k28 (F28.binds fun _ _ _ _ _ _ us hl => match us, hl with | [_, _], _ => rfl)
  have o_check_rule := ok_check_rule (P := l.prog) (w := w) (mg := mg) (base := base) F29 c_check_answer c_check_condition c_check_line c_value_names e_BadRule e_UnknownStation m_isinstance m_len m_tuple
  have c_check_rule : Cl l.prog w K mg base 48 "check_rule" 4 F_check_rule [] := cl_mk o_check_rule (PySem.W.mg_of X G a29) k29 (F29.binds fun _ _ _ _ _ _ us hl => match us, hl with | [_, _, _, _], _ => rfl)
  have o_Service_m_init := ok_Service_m_init (P := l.prog) (w := w) (mg := mg) (base := base) F30 c_check_kinds c_check_names c_check_rule e_BadCount e_BadName f_Service g_REGISTERS_MOST g_RULES_MOST g_STATIONS_MOST m_len m_list
  have i_Service : ClM l.prog w K mg base 49 "Service" 4 F_Service_m_init := ⟨_, _, _, _, rfl, o_Service_m_init, ⟨mi_Service, a30, fn30, kc_Service⟩, PySem.W.mg_of X G A_Service, A_Service, (F30.binds fun _ _ _ _ _ _ us hl => match us, hl with | [_, _, _, _, _], _ => rfl)⟩
  have o__law_text_of := ok__law_text_of (P := l.prog) (w := w) (mg := mg) (base := base) F31 
  have c__law_text_of : Cl l.prog w K mg base 1 "_law_text_of" 1 F__law_text_of [] := cl_mk o__law_text_of (PySem.W.mg_of X G a31) k31 (F31.binds fun _ _ _ _ _ _ us hl => match us, hl with | [_], _ => rfl)
  have o__law_words_of_condition := ok__law_words_of_condition (P := l.prog) (w := w) (mg := mg) (base := base) F32 (PySem.W.mg_of X G a32) k32 m_len m_list m_str 40
  have c__law_words_of_condition : Cl l.prog w K mg base 41 "_law_words_of_condition" 1 (Lw.F__law_words_of_condition 40) [] := cl_mk o__law_words_of_condition (PySem.W.mg_of X G a32) k32 (F32.binds fun _ _ _ _ _ _ us hl => match us, hl with | [_], _ => rfl)
  have o__law_words_of_line := ok__law_words_of_line (P := l.prog) (w := w) (mg := mg) (base := base) F33 m_list
  have c__law_words_of_line : Cl l.prog w K mg base 1 "_law_words_of_line" 1 F__law_words_of_line [] := cl_mk o__law_words_of_line (PySem.W.mg_of X G a33) k33 (F33.binds fun _ _ _ _ _ _ us hl => match us, hl with | [_], _ => rfl)
  have o__law_line_of_rule := ok__law_line_of_rule (P := l.prog) (w := w) (mg := mg) (base := base) F34 c__law_words_of_condition c__law_words_of_line m_len m_str
  have c__law_line_of_rule : Cl l.prog w K mg base 42 "_law_line_of_rule" 1 F__law_line_of_rule [] := cl_mk o__law_line_of_rule (PySem.W.mg_of X G a34) k34 (F34.binds fun _ _ _ _ _ _ us hl => match us, hl with | [_], _ => rfl)
  have o__law_lines := ok__law_lines (P := l.prog) (w := w) (mg := mg) (base := base) F35 c__law_line_of_rule m_list
  have c__law_lines : Cl l.prog w K mg base 43 "_law_lines" 1 F__law_lines [] := cl_mk o__law_lines (PySem.W.mg_of X G a35) k35 (F35.binds fun _ _ _ _ _ _ us hl => match us, hl with | [_], _ => rfl)
  have o_format_condition := ok_format_condition (P := l.prog) (w := w) (mg := mg) (base := base) F36 (PySem.W.mg_of X G a36) k36 m_len m_list m_str 40
  have c_format_condition : Cl l.prog w K mg base 41 "format_condition" 1 (Lw.F_format_condition 40) [] := cl_mk o_format_condition (PySem.W.mg_of X G a36) k36 (F36.binds fun _ _ _ _ _ _ us hl => match us, hl with | [_], _ => rfl)
  have o_format_line := ok_format_line (P := l.prog) (w := w) (mg := mg) (base := base) F37 m_str
  have c_format_line : Cl l.prog w K mg base 1 "format_line" 1 F_format_line [] := cl_mk o_format_line (PySem.W.mg_of X G a37) k37 (F37.binds fun _ _ _ _ _ _ us hl => match us, hl with | [_], _ => rfl)
  have o_format_rule := ok_format_rule (P := l.prog) (w := w) (mg := mg) (base := base) F38 c_format_condition c_format_line m_len m_str
  have c_format_rule : Cl l.prog w K mg base 42 "format_rule" 1 F_format_rule [] := cl_mk o_format_rule (PySem.W.mg_of X G a38) k38 (F38.binds fun _ _ _ _ _ _ us hl => match us, hl with | [_], _ => rfl)
  have o_Service_p_stations := ok_Service_p_stations (P := l.prog) (w := w) (mg := mg) (base := base) F39 f_Service m_list
  have p_Service_p_stations : PrpC l.prog w K mg base 1 "Service" "stations" F_Service_p_stations := ⟨_, _, _, _, _, rfl, A_Service, ⟨pg_Service, hd_Service, po_Service, sa_Service⟩, ⟨a39, pg39, pt39, _, pr39⟩, o_Service_p_stations, (F39.binds fun _ _ _ _ _ _ us hl => match us, hl with | [_], _ => rfl)⟩
  have o_Service_p_registers := ok_Service_p_registers (P := l.prog) (w := w) (mg := mg) (base := base) F40 f_Service m_list
  have p_Service_p_registers : PrpC l.prog w K mg base 1 "Service" "registers" F_Service_p_registers := ⟨_, _, _, _, _, rfl, A_Service, ⟨pg_Service, hd_Service, po_Service, sa_Service⟩, ⟨a40, pg40, pt40, _, pr40⟩, o_Service_p_registers, (F40.binds fun _ _ _ _ _ _ us hl => match us, hl with | [_], _ => rfl)⟩
  have o_Service_p_requests := ok_Service_p_requests (P := l.prog) (w := w) (mg := mg) (base := base) F41 f_Service m_list
  have p_Service_p_requests : PrpC l.prog w K mg base 1 "Service" "requests" F_Service_p_requests := ⟨_, _, _, _, _, rfl, A_Service, ⟨pg_Service, hd_Service, po_Service, sa_Service⟩, ⟨a41, pg41, pt41, _, pr41⟩, o_Service_p_requests, (F41.binds fun _ _ _ _ _ _ us hl => match us, hl with | [_], _ => rfl)⟩
  have o_Service_p_rules := ok_Service_p_rules (P := l.prog) (w := w) (mg := mg) (base := base) F42 f_Service m_list
  have p_Service_p_rules : PrpC l.prog w K mg base 1 "Service" "rules" F_Service_p_rules := ⟨_, _, _, _, _, rfl, A_Service, ⟨pg_Service, hd_Service, po_Service, sa_Service⟩, ⟨a42, pg42, pt42, _, pr42⟩, o_Service_p_rules, (F42.binds fun _ _ _ _ _ _ us hl => match us, hl with | [_], _ => rfl)⟩
  have o_format_service := ok_format_service (P := l.prog) (w := w) (mg := mg) (base := base) F43 c_format_rule p_Service_p_registers p_Service_p_requests p_Service_p_rules p_Service_p_stations
  have c_format_service : Cl l.prog w K mg base 43 "format_service" 1 F_format_service [] := cl_mk o_format_service (PySem.W.mg_of X G a43) k43 (F43.binds fun _ _ _ _ _ _ us hl => match us, hl with | [_], _ => rfl)
  have o_law := ok_law (P := l.prog) (w := w) (mg := mg) (base := base) F44 c__law_deck c__law_lines c__law_service c__law_text_of c_format_service i_Service m_isinstance m_range m_str p_Service_p_rules p_Service_p_stations
  exact law_sp o_law law_true
end Lw
open PySem PySem.W PyProof.Rows
set_option maxHeartbeats 0 in
theorem PySem.Challenge.cw_talkalike_k32_service_written_holds : PySem.Challenge.rw_talkalike_k32_service_written.Holds := by
  w_on; o_law; k_head; (case hw => w_witness2)
  k_fill
  refine L2.walk_of (l := PySem.Challenge.rw_talkalike_k32_service_written) (n := 63) (k := 51) (x := "_law_script") (CX := fun w => L2.CX PySem.Challenge.rw_talkalike_k32_service_written.prog w) (sp := fun w => Dn.spLaw _) rfl (by decide) rfl ⟨rfl, by decide, by decide⟩ (fun w h Y => PySem.W.kIn_of Y) ?F (fun _ _ a ns hl _ hS => ⟨a, ns, rfl, hS, hl, fun _ => rfl⟩) (fun _ H s e s' h => Dn.law_cx H s e s' h)
  case F =>
    intro w mg fa h KX G hmg
    refine' Lw.all_mk KX G hmg ?A_Service ?pg_Service ?hd_Service ?po_Service ?sa_Service ?mi_Service ?kc_Service ?n0_Service ?n1_Service ?n2_Service ?n3_Service ?a1 ?l1 ?c1 ?k1 ?a2 ?l2 ?c2 ?k2 ?a3 ?l3 ?c3 ?k3 ?a4 ?l4 ?c4 ?k4 ?a5 ?l5 ?c5 ?k5 ?a6 ?l6 ?c6 ?k6 ?a7 ?l7 ?c7 ?k7 ?a8 ?l8 ?c8 ?k8 ?a9 ?l9 ?c9 ?k9 ?a10 ?l10 ?c10 ?k10 ?a11 ?l11 ?c11 ?k11 ?a12 ?l12 ?c12 ?k12 ?a13 ?l13 ?c13 ?k13 ?a14 ?l14 ?c14 ?k14 ?a15 ?l15 ?c15 ?k15 ?a16 ?l16 ?c16 ?k16 ?a17 ?l17 ?c17 ?k17 ?a18 ?l18 ?c18 ?k18 ?a19 ?l19 ?c19 ?k19 ?a20 ?l20 ?c20 ?k20 ?a21 ?l21 ?c21 ?k21 ?a22 ?l22 ?c22 ?k22 ?a23 ?l23 ?c23 ?k23 ?a24 ?l24 ?c24 ?k24 ?a25 ?l25 ?c25 ?k25 ?a26 ?l26 ?c26 ?k26 ?a27 ?l27 ?c27 ?k27 ?a28 ?l28 ?c28 ?k28 ?a29 ?l29 ?c29 ?k29 ?a30 ?fn30 ?l30 ?c30 ?k30 ?a31 ?l31 ?c31 ?k31 ?a32 ?l32 ?c32 ?k32 ?a33 ?l33 ?c33 ?k33 ?a34 ?l34 ?c34 ?k34 ?a35 ?l35 ?c35 ?k35 ?a36 ?l36 ?c36 ?k36 ?a37 ?l37 ?c37 ?k37 ?a38 ?l38 ?c38 ?k38 ?a39 ?pg39 ?pt39 ?pr39 ?l39 ?c39 ?k39 ?a40 ?pg40 ?pt40 ?pr40 ?l40 ?c40 ?k40 ?a41 ?pg41 ?pt41 ?pr41 ?l41 ?c41 ?k41 ?a42 ?pg42 ?pt42 ?pr42 ?l42 ?c42 ?k42 ?a43 ?l43 ?c43 ?k43 ?a44 ?l44 ?c44 ?k44 ?lT16 ?lU16_0 ?A_TalkError ?X_TalkError ?sa_TalkError ?ga_TalkError ?gg_TalkError ?nW_TalkError ?nP_TalkError ?kC_TalkError ?eC_TalkError ?tC_TalkError ?hC_TalkError ?ca_TalkError ?mo_TalkError ?iI_TalkError ?tI_TalkError ?lI_TalkError ?cI_TalkError ?kI_TalkError ?lT_TalkError ?rd_TalkError ?sg_TalkError ?cf_TalkError ?hn_TalkError ?ht_TalkError ?A_BadPattern ?X_BadPattern ?sa_BadPattern ?ga_BadPattern ?gg_BadPattern ?nW_BadPattern ?nP_BadPattern ?kC_BadPattern ?eC_BadPattern ?tC_BadPattern ?hC_BadPattern ?ca_BadPattern ?mo_BadPattern ?iI_BadPattern ?tI_BadPattern ?lI_BadPattern ?cI_BadPattern ?kI_BadPattern ?lT_BadPattern ?A_BadKinds ?X_BadKinds ?sa_BadKinds ?ga_BadKinds ?gg_BadKinds ?nW_BadKinds ?nP_BadKinds ?kC_BadKinds ?eC_BadKinds ?tC_BadKinds ?hC_BadKinds ?ca_BadKinds ?mo_BadKinds ?iI_BadKinds ?tI_BadKinds ?lI_BadKinds ?cI_BadKinds ?kI_BadKinds ?lT_BadKinds ?A_BadCondition ?X_BadCondition ?sa_BadCondition ?ga_BadCondition ?gg_BadCondition ?nW_BadCondition ?nP_BadCondition ?kC_BadCondition ?eC_BadCondition ?tC_BadCondition ?hC_BadCondition ?ca_BadCondition ?mo_BadCondition ?iI_BadCondition ?tI_BadCondition ?lI_BadCondition ?cI_BadCondition ?kI_BadCondition ?lT_BadCondition ?A_UnknownName ?X_UnknownName ?sa_UnknownName ?ga_UnknownName ?gg_UnknownName ?nW_UnknownName ?nP_UnknownName ?kC_UnknownName ?eC_UnknownName ?tC_UnknownName ?hC_UnknownName ?ca_UnknownName ?mo_UnknownName ?iI_UnknownName ?tI_UnknownName ?lI_UnknownName ?cI_UnknownName ?kI_UnknownName ?lT_UnknownName ?A_UnknownStation ?X_UnknownStation ?sa_UnknownStation ?ga_UnknownStation ?gg_UnknownStation ?nW_UnknownStation ?nP_UnknownStation ?kC_UnknownStation ?eC_UnknownStation ?tC_UnknownStation ?hC_UnknownStation ?ca_UnknownStation ?mo_UnknownStation ?iI_UnknownStation ?tI_UnknownStation ?lI_UnknownStation ?cI_UnknownStation ?kI_UnknownStation ?lT_UnknownStation ?A_UnknownRequest ?X_UnknownRequest ?sa_UnknownRequest ?ga_UnknownRequest ?gg_UnknownRequest ?nW_UnknownRequest ?nP_UnknownRequest ?kC_UnknownRequest ?eC_UnknownRequest ?tC_UnknownRequest ?hC_UnknownRequest ?ca_UnknownRequest ?mo_UnknownRequest ?iI_UnknownRequest ?tI_UnknownRequest ?lI_UnknownRequest ?cI_UnknownRequest ?kI_UnknownRequest ?lT_UnknownRequest ?A_BadRule ?X_BadRule ?sa_BadRule ?ga_BadRule ?gg_BadRule ?nW_BadRule ?nP_BadRule ?kC_BadRule ?eC_BadRule ?tC_BadRule ?hC_BadRule ?ca_BadRule ?mo_BadRule ?iI_BadRule ?tI_BadRule ?lI_BadRule ?cI_BadRule ?kI_BadRule ?lT_BadRule ?A_BadSource ?X_BadSource ?sa_BadSource ?ga_BadSource ?gg_BadSource ?nW_BadSource ?nP_BadSource ?kC_BadSource ?eC_BadSource ?tC_BadSource ?hC_BadSource ?ca_BadSource ?mo_BadSource ?iI_BadSource ?tI_BadSource ?lI_BadSource ?cI_BadSource ?kI_BadSource ?lT_BadSource ?A_BadCount ?X_BadCount ?sa_BadCount ?ga_BadCount ?gg_BadCount ?nW_BadCount ?nP_BadCount ?kC_BadCount ?eC_BadCount ?tC_BadCount ?hC_BadCount ?ca_BadCount ?mo_BadCount ?iI_BadCount ?tI_BadCount ?lI_BadCount ?cI_BadCount ?kI_BadCount ?lT_BadCount ?A_BadName ?X_BadName ?sa_BadName ?ga_BadName ?gg_BadName ?nW_BadName ?nP_BadName ?kC_BadName ?eC_BadName ?tC_BadName ?hC_BadName ?ca_BadName ?mo_BadName ?iI_BadName ?tI_BadName ?lI_BadName ?cI_BadName ?kI_BadName ?lT_BadName ?A_DuplicateName ?X_DuplicateName ?sa_DuplicateName ?ga_DuplicateName ?gg_DuplicateName ?nW_DuplicateName ?nP_DuplicateName ?kC_DuplicateName ?eC_DuplicateName ?tC_DuplicateName ?hC_DuplicateName ?ca_DuplicateName ?mo_DuplicateName ?iI_DuplicateName ?tI_DuplicateName ?lI_DuplicateName ?cI_DuplicateName ?kI_DuplicateName ?lT_DuplicateName ?z_abs ?z_all ?z_enumerate ?z_int ?z_isinstance ?z_len ?z_list ?z_min ?z_range ?z_str ?z_sum ?z_tuple ?q_NAME_MOST ?q_LETTERS ?q_VALUES_MOST ?q_KINDS_MOST ?q_SIGNS_MOST ?q_STARS_MOST ?q_LENGTHS ?p_LENGTHS ?lo_LENGTHS ?te_LENGTHS ?q_DEPTH_MOST ?q_NODES_MOST ?q_TEXT_MOST ?q_SOURCES_MOST ?q_STATIONS_MOST ?q_REGISTERS_MOST ?q_RULES_MOST
    (case A_Service => k_is); (case pg_Service => k_is); (case hd_Service => k_is); (case po_Service => k_is); (case sa_Service => k_is); (case mi_Service => k_is); (case kc_Service => k_is); (case n0_Service => k_is); (case n1_Service => k_is); (case n2_Service => k_is); (case n3_Service => k_is); (case a1 => k_is); (case l1 => k_is); (case c1 => k_is); (case k1 => k_is); (case a2 => k_is); (case l2 => k_is); (case c2 => k_is); (case k2 => k_is); (case a3 => k_is); (case l3 => k_is); (case c3 => k_is); (case k3 => k_is); (case a4 => k_is); (case l4 => k_is); (case c4 => k_is); (case k4 => k_is); (case a5 => k_is); (case l5 => k_is); (case c5 => k_is); (case k5 => k_is); (case a6 => k_is); (case l6 => k_is); (case c6 => k_is); (case k6 => k_is); (case a7 => k_is); (case l7 => k_is); (case c7 => k_is); (case k7 => k_is); (case a8 => k_is); (case l8 => k_is); (case c8 => k_is); (case k8 => k_is); (case a9 => k_is); (case l9 => k_is); (case c9 => k_is); (case k9 => k_is); (case a10 => k_is); (case l10 => k_is); (case c10 => k_is); (case k10 => k_is); (case a11 => k_is); (case l11 => k_is); (case c11 => k_is); (case k11 => k_is); (case a12 => k_is); (case l12 => k_is); (case c12 => k_is); (case k12 => k_is); (case a13 => k_is); (case l13 => k_is); (case c13 => k_is); (case k13 => k_is); (case a14 => k_is); (case l14 => k_is); (case c14 => k_is); (case k14 => k_is); (case a15 => k_is); (case l15 => k_is); (case c15 => k_is); (case k15 => k_is); (case a16 => k_is); (case l16 => k_is); (case c16 => k_is); (case k16 => k_is); (case a17 => k_is); (case l17 => k_is); (case c17 => k_is); (case k17 => k_is); (case a18 => k_is); (case l18 => k_is); (case c18 => k_is); (case k18 => k_is); (case a19 => k_is); (case l19 => k_is); (case c19 => k_is); (case k19 => k_is); (case a20 => k_is); (case l20 => k_is); (case c20 => k_is); (case k20 => k_is); (case a21 => k_is); (case l21 => k_is); (case c21 => k_is); (case k21 => k_is); (case a22 => k_is); (case l22 => k_is); (case c22 => k_is); (case k22 => k_is); (case a23 => k_is); (case l23 => k_is); (case c23 => k_is); (case k23 => k_is); (case a24 => k_is); (case l24 => k_is); (case c24 => k_is); (case k24 => k_is); (case a25 => k_is); (case l25 => k_is); (case c25 => k_is); (case k25 => k_is); (case a26 => k_is); (case l26 => k_is); (case c26 => k_is); (case k26 => k_is); (case a27 => k_is); (case l27 => k_is); (case c27 => k_is); (case k27 => k_is); (case a28 => k_is); (case l28 => k_is); (case c28 => k_is); (case k28 => k_is); (case a29 => k_is); (case l29 => k_is); (case c29 => k_is); (case k29 => k_is); (case a30 => k_is); (case fn30 => k_is); (case l30 => k_is); (case c30 => k_is); (case k30 => k_is); (case a31 => k_is); (case l31 => k_is); (case c31 => k_is); (case k31 => k_is); (case a32 => k_is); (case l32 => k_is); (case c32 => k_is); (case k32 => k_is); (case a33 => k_is); (case l33 => k_is); (case c33 => k_is); (case k33 => k_is); (case a34 => k_is); (case l34 => k_is); (case c34 => k_is); (case k34 => k_is); (case a35 => k_is); (case l35 => k_is); (case c35 => k_is); (case k35 => k_is); (case a36 => k_is); (case l36 => k_is); (case c36 => k_is); (case k36 => k_is); (case a37 => k_is); (case l37 => k_is); (case c37 => k_is); (case k37 => k_is); (case a38 => k_is); (case l38 => k_is); (case c38 => k_is); (case k38 => k_is); (case a39 => k_is); (case pg39 => k_is); (case pt39 => k_is); (case pr39 => k_is); (case l39 => k_is); (case c39 => k_is); (case k39 => k_is); (case a40 => k_is); (case pg40 => k_is); (case pt40 => k_is); (case pr40 => k_is); (case l40 => k_is); (case c40 => k_is); (case k40 => k_is); (case a41 => k_is); (case pg41 => k_is); (case pt41 => k_is); (case pr41 => k_is); (case l41 => k_is); (case c41 => k_is); (case k41 => k_is); (case a42 => k_is); (case pg42 => k_is); (case pt42 => k_is); (case pr42 => k_is); (case l42 => k_is); (case c42 => k_is); (case k42 => k_is); (case a43 => k_is); (case l43 => k_is); (case c43 => k_is); (case k43 => k_is); (case a44 => k_is); (case l44 => k_is); (case c44 => k_is); (case k44 => k_is); (case lT16 => k_is); (case lU16_0 => k_is); (case A_TalkError => k_is); (case X_TalkError => k_is); (case sa_TalkError => k_is); (case ga_TalkError => k_is); (case gg_TalkError => k_is); (case nW_TalkError => k_is); (case nP_TalkError => k_is); (case kC_TalkError => k_is); (case eC_TalkError => k_is); (case tC_TalkError => k_is); (case hC_TalkError => k_is); (case ca_TalkError => k_is); (case mo_TalkError => k_is); (case iI_TalkError => k_is); (case tI_TalkError => k_is); (case lI_TalkError => k_is); (case cI_TalkError => k_is); (case kI_TalkError => k_is); (case lT_TalkError => k_is); (case rd_TalkError => k_is); (case sg_TalkError => k_is); (case cf_TalkError => k_is); (case hn_TalkError => k_is); (case ht_TalkError => k_is); (case A_BadPattern => k_is); (case X_BadPattern => k_is); (case sa_BadPattern => k_is); (case ga_BadPattern => k_is); (case gg_BadPattern => k_is); (case nW_BadPattern => k_is); (case nP_BadPattern => k_is); (case kC_BadPattern => k_is); (case eC_BadPattern => k_is); (case tC_BadPattern => k_is); (case hC_BadPattern => k_is); (case ca_BadPattern => k_is); (case mo_BadPattern => k_is); (case iI_BadPattern => k_is); (case tI_BadPattern => k_is); (case lI_BadPattern => k_is); (case cI_BadPattern => k_is); (case kI_BadPattern => k_is); (case lT_BadPattern => k_is); (case A_BadKinds => k_is); (case X_BadKinds => k_is); (case sa_BadKinds => k_is); (case ga_BadKinds => k_is); (case gg_BadKinds => k_is); (case nW_BadKinds => k_is); (case nP_BadKinds => k_is); (case kC_BadKinds => k_is); (case eC_BadKinds => k_is); (case tC_BadKinds => k_is); (case hC_BadKinds => k_is); (case ca_BadKinds => k_is); (case mo_BadKinds => k_is); (case iI_BadKinds => k_is); (case tI_BadKinds => k_is); (case lI_BadKinds => k_is); (case cI_BadKinds => k_is); (case kI_BadKinds => k_is); (case lT_BadKinds => k_is); (case A_BadCondition => k_is); (case X_BadCondition => k_is); (case sa_BadCondition => k_is); (case ga_BadCondition => k_is); (case gg_BadCondition => k_is); (case nW_BadCondition => k_is); (case nP_BadCondition => k_is); (case kC_BadCondition => k_is); (case eC_BadCondition => k_is); (case tC_BadCondition => k_is); (case hC_BadCondition => k_is); (case ca_BadCondition => k_is); (case mo_BadCondition => k_is); (case iI_BadCondition => k_is); (case tI_BadCondition => k_is); (case lI_BadCondition => k_is); (case cI_BadCondition => k_is); (case kI_BadCondition => k_is); (case lT_BadCondition => k_is); (case A_UnknownName => k_is); (case X_UnknownName => k_is); (case sa_UnknownName => k_is); (case ga_UnknownName => k_is); (case gg_UnknownName => k_is); (case nW_UnknownName => k_is); (case nP_UnknownName => k_is); (case kC_UnknownName => k_is); (case eC_UnknownName => k_is); (case tC_UnknownName => k_is); (case hC_UnknownName => k_is); (case ca_UnknownName => k_is); (case mo_UnknownName => k_is); (case iI_UnknownName => k_is); (case tI_UnknownName => k_is); (case lI_UnknownName => k_is); (case cI_UnknownName => k_is); (case kI_UnknownName => k_is); (case lT_UnknownName => k_is); (case A_UnknownStation => k_is); (case X_UnknownStation => k_is); (case sa_UnknownStation => k_is); (case ga_UnknownStation => k_is); (case gg_UnknownStation => k_is); (case nW_UnknownStation => k_is); (case nP_UnknownStation => k_is); (case kC_UnknownStation => k_is); (case eC_UnknownStation => k_is); (case tC_UnknownStation => k_is); (case hC_UnknownStation => k_is); (case ca_UnknownStation => k_is); (case mo_UnknownStation => k_is); (case iI_UnknownStation => k_is); (case tI_UnknownStation => k_is); (case lI_UnknownStation => k_is); (case cI_UnknownStation => k_is); (case kI_UnknownStation => k_is); (case lT_UnknownStation => k_is); (case A_UnknownRequest => k_is); (case X_UnknownRequest => k_is); (case sa_UnknownRequest => k_is); (case ga_UnknownRequest => k_is); (case gg_UnknownRequest => k_is); (case nW_UnknownRequest => k_is); (case nP_UnknownRequest => k_is); (case kC_UnknownRequest => k_is); (case eC_UnknownRequest => k_is); (case tC_UnknownRequest => k_is); (case hC_UnknownRequest => k_is); (case ca_UnknownRequest => k_is); (case mo_UnknownRequest => k_is); (case iI_UnknownRequest => k_is); (case tI_UnknownRequest => k_is); (case lI_UnknownRequest => k_is); (case cI_UnknownRequest => k_is); (case kI_UnknownRequest => k_is); (case lT_UnknownRequest => k_is); (case A_BadRule => k_is); (case X_BadRule => k_is); (case sa_BadRule => k_is); (case ga_BadRule => k_is); (case gg_BadRule => k_is); (case nW_BadRule => k_is); (case nP_BadRule => k_is); (case kC_BadRule => k_is); (case eC_BadRule => k_is); (case tC_BadRule => k_is); (case hC_BadRule => k_is); (case ca_BadRule => k_is); (case mo_BadRule => k_is); (case iI_BadRule => k_is); (case tI_BadRule => k_is); (case lI_BadRule => k_is); (case cI_BadRule => k_is); (case kI_BadRule => k_is); (case lT_BadRule => k_is); (case A_BadSource => k_is); (case X_BadSource => k_is); (case sa_BadSource => k_is); (case ga_BadSource => k_is); (case gg_BadSource => k_is); (case nW_BadSource => k_is); (case nP_BadSource => k_is); (case kC_BadSource => k_is); (case eC_BadSource => k_is); (case tC_BadSource => k_is); (case hC_BadSource => k_is); (case ca_BadSource => k_is); (case mo_BadSource => k_is); (case iI_BadSource => k_is); (case tI_BadSource => k_is); (case lI_BadSource => k_is); (case cI_BadSource => k_is); (case kI_BadSource => k_is); (case lT_BadSource => k_is); (case A_BadCount => k_is); (case X_BadCount => k_is); (case sa_BadCount => k_is); (case ga_BadCount => k_is); (case gg_BadCount => k_is); (case nW_BadCount => k_is); (case nP_BadCount => k_is); (case kC_BadCount => k_is); (case eC_BadCount => k_is); (case tC_BadCount => k_is); (case hC_BadCount => k_is); (case ca_BadCount => k_is); (case mo_BadCount => k_is); (case iI_BadCount => k_is); (case tI_BadCount => k_is); (case lI_BadCount => k_is); (case cI_BadCount => k_is); (case kI_BadCount => k_is); (case lT_BadCount => k_is); (case A_BadName => k_is); (case X_BadName => k_is); (case sa_BadName => k_is); (case ga_BadName => k_is); (case gg_BadName => k_is); (case nW_BadName => k_is); (case nP_BadName => k_is); (case kC_BadName => k_is); (case eC_BadName => k_is); (case tC_BadName => k_is); (case hC_BadName => k_is); (case ca_BadName => k_is); (case mo_BadName => k_is); (case iI_BadName => k_is); (case tI_BadName => k_is); (case lI_BadName => k_is); (case cI_BadName => k_is); (case kI_BadName => k_is); (case lT_BadName => k_is); (case A_DuplicateName => k_is); (case X_DuplicateName => k_is); (case sa_DuplicateName => k_is); (case ga_DuplicateName => k_is); (case gg_DuplicateName => k_is); (case nW_DuplicateName => k_is); (case nP_DuplicateName => k_is); (case kC_DuplicateName => k_is); (case eC_DuplicateName => k_is); (case tC_DuplicateName => k_is); (case hC_DuplicateName => k_is); (case ca_DuplicateName => k_is); (case mo_DuplicateName => k_is); (case iI_DuplicateName => k_is); (case tI_DuplicateName => k_is); (case lI_DuplicateName => k_is); (case cI_DuplicateName => k_is); (case kI_DuplicateName => k_is); (case lT_DuplicateName => k_is); (case z_abs => k_is); (case z_all => k_is); (case z_enumerate => k_is); (case z_int => k_is); (case z_isinstance => k_is); (case z_len => k_is); (case z_list => k_is); (case z_min => k_is); (case z_range => k_is); (case z_str => k_is); (case z_sum => k_is); (case z_tuple => k_is); (case q_NAME_MOST => k_is); (case q_LETTERS => k_is); (case q_VALUES_MOST => k_is); (case q_KINDS_MOST => k_is); (case q_SIGNS_MOST => k_is); (case q_STARS_MOST => k_is); (case q_LENGTHS => k_is); (case p_LENGTHS => k_is); (case lo_LENGTHS => (first | rfl | decide +kernel)); (case te_LENGTHS => exact .cons ⟨_, rfl⟩ ⟨_, rfl⟩ rfl (.cons ⟨_, rfl⟩ ⟨_, rfl⟩ rfl (.cons ⟨_, rfl⟩ ⟨_, rfl⟩ rfl (.cons ⟨_, rfl⟩ ⟨_, rfl⟩ rfl (.cons ⟨_, rfl⟩ ⟨_, rfl⟩ rfl (.cons ⟨_, rfl⟩ ⟨_, rfl⟩ rfl (.nil))))))); (case q_DEPTH_MOST => k_is); (case q_NODES_MOST => k_is); (case q_TEXT_MOST => k_is); (case q_SOURCES_MOST => k_is); (case q_STATIONS_MOST => k_is); (case q_REGISTERS_MOST => k_is); (case q_RULES_MOST => k_is)
