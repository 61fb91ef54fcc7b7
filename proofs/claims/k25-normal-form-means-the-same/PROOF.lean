import PyProof.Rows.All
import Wide.All
import OpenK.AllK
import Wide.FinOn
import HandS.Head0
import HandS.Head1
import HandS.Head2
import HandS.HeadEnd
import HandS.HeadHook1
import HandS.HeadHook2
import HandS.HeadNt
import KE.KExcPX
import HandS.ForMost
import HandS.Walk
import HandS.Deep
import HandS.Evl
import HandS.ExcOwn
import HandS.WordsExc
import HandS.CallSlots
import HandS.TupAny
import HandS.Style
import HandS.IsInst
import KE.DataCmp
import HandS.StrMore
import HandS.Replace
import HandS.Zip
import HandS.More
import HandS.ExcInit
import HandS.ExcField
import HandS.TryOnly
import HandS.Defaults
import HandS.ClsMeth
import HandS.ExcIs
import KE.KExcIs
import HandS.Property
import HandS.RaiseMore
import HandS.SortKw
import HandS.TupLen
import KE.DatumOrd
import KE.GoesZip
import PyProof.DictMoreH
import PyProof.ReprRoads
import KE.KEqDict
import PySem.Challenge.RW_talkalike_k25_normal_form_means_the_same
set_option Elab.async false
set_option linter.all false
set_option maxRecDepth 100000
set_option maxHeartbeats 2000000
set_option autoImplicit false

namespace Dn
open PySem L2
open He (ga ma eqO eqO_ok ba)

/-! ## 0. The head: what is looked at behind the top (proved of in 60) -/
def clsB : Stmt → List Stmt
  | .ClassDef (body := b) .. => b
  | _ => []
/-- a property's getter -/
def prA (K : PySem.W.Frag) (C : Addr) (m : Str) : Addr := match PySem.W.recIn K (ma K C m) "property" with
  | some (.ref f :: _) => f
  | _ => 0
/-- the words of a class of errors -/
def excX (K : PySem.W.Frag) (C : Addr) : Bool := match K.lookup C with
  | some ⟨.type c, _, .cls cd, sl⟩ => decide (c = "type") && ((match cd.mro with
    | .ref C' :: bm => decide (C' = C) && PySem.HandSPX.refsVE bm
    | _ => false) && ((match sl.toList with
    | [_, _, _, _, some (.builtin n), _] => decide (n = "ValueError.__new__")
    | _ => false) && (cd.hasDict && !cd.hasDel)))
  | _ => false
/-- an empty tuple -/
def unitB (K : PySem.W.Frag) (a : Addr) : Bool := match K.lookup a with
  | some ⟨.type c, _, .seq its _, _⟩ => decide (c = "tuple") && its.isEmpty
  | _ => false
/-- texts, one by one -/
def strsB : List Str → List Value → Bool
  | [], [] => true
  | x :: xs, .str y _ :: us => decide (x = y) && strsB xs us
  | _, _ => false
def tupX (K : PySem.W.Frag) (a : Addr) (zs : List Str) : Bool := match K.lookup a with
  | some ⟨.type c, _, .seq its _, _⟩ => decide (c = "tuple") && (decide (its.size ≤ sizeLine) && strsB zs its.toList)
  | _ => false
/-- a module's dict of texts and ints, with the hashes -/
def rowD (e : DictEntry) : Option (Str × Int × Int) := match e.key, e.val with
  | .str x _, .int i _ => some (x, i, e.hash)
  | _, _ => none
def dicX (K : PySem.W.Frag) (a : Addr) : Option (List (Option (Str × Int × Int))) := match K.lookup a with
  | some ⟨.type c, none, .dict es _, sl⟩ => (match decide (c = "dict") && (sl.isEmpty && !(a == sysModules)) with
    | true => some (es.toList.map rowD)
    | false => none)
  | _ => none
def rowsX (P : Params) (l : List (Str × Int)) : List (Option (Str × Int × Int)) := l.map fun q => some (q.1, q.2, PyData.keyHash P q.1)
inductive Fx where
  | sub (c d : Str) (b : Bool)
  | subT (c : Str) (t : String) (b : Bool)
  | exc (c : Str)
  | exc0 (c : Str)
  | exi (c : Str)
  | prp (c m : Str)
  | unit (a : PySem.W.Frag → Addr)
  | tup (x : Str) (zs : List Str)
def Fx.ok (K : PySem.W.Frag) : Fx → Bool
  | .sub c d b => decide (PySem.W.subIn K (.ref (ga K c)) (.ref (ga K d)) = some b)
  | .subT c t b => decide (PySem.W.subIn K (.ref (ga K c)) (.type t) = some b)
  | .exc c => excX K (ga K c) && (eqO (PySem.W.findIn K (.ref (ga K c)) "__setattr__") (some (some (.builtin "object.__setattr__"))) && (eqO (PySem.W.findIn K (.ref (ga K c)) "__getattribute__") (some (some (.builtin "BaseException.__getattribute__"))) &&
      (eqO (PySem.W.findIn K (.ref (ga K c)) "__getattr__") (some none) && (eqO (PySem.W.findIn K (.ref (ga K c)) "word") (some none) && (eqO (PySem.W.findIn K (.ref (ga K c)) "place") (some none) && (PySem.W.keepIn K (.ref (ga K c)) &&
      (decide (PySem.W.subIn K (.ref (ga K c)) (.type "BaseException") = some true) && (decide (PySem.W.typeIn K (.ref (ga K c)) = some (.type "type")) && (PySem.W.hasDictIn K (ga K c) && (eqO (PySem.W.findIn K (.ref (ga K c)) "__class__") (some (some (.builtin "object.__class__"))) &&
      (eqO (PySem.W.specialIn K (.builtin "object.__class__") "__get__") (some (some (.builtin "getset_descriptor.__get__"))) && (decide (PySem.W.takesIn K (.builtin "object.__class__") = some true) && decide (PySem.W.mroIn K (ga K c) (.type "object") = some true)))))))))))))
  | .exc0 c => PySem.W.readsIn K (ga K c) (.type "type") && (eqO (PySem.W.specialIn K (.ref (ga K c)) "__getattribute__") (some (some (.builtin "type.__getattribute__"))) && (match PySem.W.findCls K (.ref (ga K c)) (.type "type") "__init__" with
    | some (.val (.ref f)) => decide (f = ma K (ga K c) "__init__")
    | _ => false))
  | .exi c => eqO (PySem.W.findIn K (.ref (ga K c)) "__init__") (some (some (.ref (ma K (ga K c) "__init__")))) && decide (PySem.W.typeIn K (.ref (ma K (ga K c) "__init__")) = some (.type "function"))
  | .prp c m => eqO (PySem.W.findIn K (.ref (ga K c)) m) (some (some (.ref (ma K (ga K c) m)))) && (eqO (PySem.W.specialIn K (.ref (ma K (ga K c) m)) "__get__") (some (some (.builtin "property.__get__"))) && (decide (PySem.W.takesIn K (.ref (ma K (ga K c) m)) = some true) &&
    (match PySem.W.recIn K (ma K (ga K c) m) "property" with
    | some (.ref f :: _) => decide (f = prA K (ga K c) m)
    | _ => false)))
  | .unit a => unitB K (a K)
  | .tup x zs => tupX K (ga K x) zs
def rfF (g : Addr → Option Obj) (a : Addr) : List Addr := match g a with
  | some ⟨_, _, .func fd, _⟩ => a :: (He.refV fd.code ++ (match fd.defaults with
    | .ref T => T :: (match g T with
      | some ⟨_, _, .seq its _, _⟩ => its.toList.flatMap He.refV
      | _ => [])
    | _ => []))
  | _ => [a]
def rfM (g : Addr → Option Obj) (v : Value) : List Addr := match v with
  | .ref m => (match g m with
    | some ⟨_, _, .fields vs, _⟩ => m :: vs.toList.flatMap fun v => match v with
      | .ref f => rfF g f
      | _ => []
    | _ => rfF g m)
  | _ => []
def rfV (g : Addr → Option Obj) (v : Value) : List Addr := match v with
  | .ref a => (match g a with
    | some ⟨_, _, .cls cd, _⟩ => a :: cd.ns :: (match g cd.ns with
      | some ⟨_, _, .dict es _, _⟩ => es.toList.flatMap fun e => rfM g e.val
      | _ => [])
    | some ⟨_, _, .seq its _, _⟩ => a :: its.toList.flatMap He.refV
    | _ => rfF g a)
  | _ => []
def asL (g : Addr → Option Obj) : List Addr := mainGlobals :: PySem.cStatics :: (match g mainGlobals with
  | some ⟨_, _, .dict es _, _⟩ => es.toList.flatMap fun e => rfV g e.val
  | _ => [])
abbrev TabK : Type := Str × List (Str × Int)
abbrev AlL : Type := Bool × List He5.FnW × List (Option (List (Option (Str × Int × Int))))
def obsL (fa : List He.Fa) (fx : List Fx) (fn : List He5.DefA) (ts : List TabK) (K : PySem.W.Frag) : AlL :=
  ((fa.all fun f => f.ok K) && ((fx.all fun f => f.ok K) && fn.all fun d => d.ok K), fn.map (fun d => He5.fnA K (d.at_ K)), ts.map fun t => dicX K (ga K t.1))
def valL (fn : List He5.DefA) (ts : List TabK) (w : World) : AlL := (true, fn.map He5.DefA.val, ts.map fun t => some (rowsX w.params t.2))
def hookL (fa : List He.Fa) (fx : List Fx) (fn : List He5.DefA) (ts : List TabK) : PySem.W.Hook where
  α := AlL
  obs := fun s => obsL fa fx fn ts (He.frG s.heap.get? (asL s.heap.get?))
  val := fun w => valL fn ts w
  says := fun w h => ∃ K : PySem.W.Frag, K.In h ∧ obsL fa fx fn ts K = valL fn ts w
  of := fun _ _ e => ⟨_, He.frG_in, e⟩
  keeps := fun _ _ _ ⟨K, hK, c⟩ k => ⟨K, PySem.W.Frag.In.keeps hK k, c⟩
def obL (fa : List He.Fa) (fx : List Fx) (fn : List He5.DefA) (ts : List TabK) (s : PySem.W.SharedT) : AlL := obsL fa fx fn ts (He.frG (HandSHeadRun.getT s) (asL (HandSHeadRun.getT s)))
end Dn


namespace Lw
open PySem L2 Dn
/-! ### the text -/
def topS (i : Nat) : Stmt := PySem.Challenge.pw_talkalike_k25_normal_form_means_the_same.main.body.getD i (.Pass ⟨0, 0, 0, 0⟩)
abbrev s__law_deck : Stmt := topS 7
abbrev s__law_draw : Stmt := topS 8
abbrev s__law_letter : Stmt := topS 9
abbrev s__law_text : Stmt := topS 10
abbrev s__law_names : Stmt := topS 11
abbrev s__law_pattern : Stmt := topS 12
abbrev s__law_part : Stmt := topS 13
abbrev s__law_condition : Stmt := topS 14
abbrev s_normal : Stmt := topS 5
abbrev s_joined : Stmt := topS 4
abbrev s_members_of : Stmt := topS 3
abbrev s__law_nodes : Stmt := topS 19
abbrev s__law_value : Stmt := topS 17
abbrev s__law_meaning : Stmt := topS 18
abbrev s__law_is_condition : Stmt := topS 20
abbrev s__law_matches : Stmt := topS 15
abbrev s__law_holds : Stmt := topS 16
abbrev s_law : Stmt := topS 21
/-! ### the head -/
def hd__law_deck : He5.DefA := ⟨fun K => He.ga K (PySem.Str.ofString "_law_deck"), (PySem.Str.ofString "_law_deck"), (PySem.Str.ofString "_law_deck"), defArgs s__law_deck, defBody s__law_deck, defScope s__law_deck, [], []⟩
def hd__law_draw : He5.DefA := ⟨fun K => He.ga K (PySem.Str.ofString "_law_draw"), (PySem.Str.ofString "_law_draw"), (PySem.Str.ofString "_law_draw"), defArgs s__law_draw, defBody s__law_draw, defScope s__law_draw, [], []⟩
def hd__law_letter : He5.DefA := ⟨fun K => He.ga K (PySem.Str.ofString "_law_letter"), (PySem.Str.ofString "_law_letter"), (PySem.Str.ofString "_law_letter"), defArgs s__law_letter, defBody s__law_letter, defScope s__law_letter, [], []⟩
def hd__law_text : He5.DefA := ⟨fun K => He.ga K (PySem.Str.ofString "_law_text"), (PySem.Str.ofString "_law_text"), (PySem.Str.ofString "_law_text"), defArgs s__law_text, defBody s__law_text, defScope s__law_text, [], []⟩
def hd__law_names : He5.DefA := ⟨fun K => He.ga K (PySem.Str.ofString "_law_names"), (PySem.Str.ofString "_law_names"), (PySem.Str.ofString "_law_names"), defArgs s__law_names, defBody s__law_names, defScope s__law_names, [], []⟩
def hd__law_pattern : He5.DefA := ⟨fun K => He.ga K (PySem.Str.ofString "_law_pattern"), (PySem.Str.ofString "_law_pattern"), (PySem.Str.ofString "_law_pattern"), defArgs s__law_pattern, defBody s__law_pattern, defScope s__law_pattern, [], []⟩
def hd__law_part : He5.DefA := ⟨fun K => He.ga K (PySem.Str.ofString "_law_part"), (PySem.Str.ofString "_law_part"), (PySem.Str.ofString "_law_part"), defArgs s__law_part, defBody s__law_part, defScope s__law_part, [], []⟩
def hd__law_condition : He5.DefA := ⟨fun K => He.ga K (PySem.Str.ofString "_law_condition"), (PySem.Str.ofString "_law_condition"), (PySem.Str.ofString "_law_condition"), defArgs s__law_condition, defBody s__law_condition, defScope s__law_condition, [], []⟩
def hd_normal : He5.DefA := ⟨fun K => He.ga K (PySem.Str.ofString "normal"), (PySem.Str.ofString "normal"), (PySem.Str.ofString "normal"), defArgs s_normal, defBody s_normal, defScope s_normal, [], []⟩
def hd_joined : He5.DefA := ⟨fun K => He.ga K (PySem.Str.ofString "joined"), (PySem.Str.ofString "joined"), (PySem.Str.ofString "joined"), defArgs s_joined, defBody s_joined, defScope s_joined, [], []⟩
def hd_members_of : He5.DefA := ⟨fun K => He.ga K (PySem.Str.ofString "members_of"), (PySem.Str.ofString "members_of"), (PySem.Str.ofString "members_of"), defArgs s_members_of, defBody s_members_of, defScope s_members_of, [], []⟩
def hd__law_nodes : He5.DefA := ⟨fun K => He.ga K (PySem.Str.ofString "_law_nodes"), (PySem.Str.ofString "_law_nodes"), (PySem.Str.ofString "_law_nodes"), defArgs s__law_nodes, defBody s__law_nodes, defScope s__law_nodes, [], []⟩
def hd__law_value : He5.DefA := ⟨fun K => He.ga K (PySem.Str.ofString "_law_value"), (PySem.Str.ofString "_law_value"), (PySem.Str.ofString "_law_value"), defArgs s__law_value, defBody s__law_value, defScope s__law_value, [], []⟩
def hd__law_meaning : He5.DefA := ⟨fun K => He.ga K (PySem.Str.ofString "_law_meaning"), (PySem.Str.ofString "_law_meaning"), (PySem.Str.ofString "_law_meaning"), defArgs s__law_meaning, defBody s__law_meaning, defScope s__law_meaning, [], []⟩
def hd__law_is_condition : He5.DefA := ⟨fun K => He.ga K (PySem.Str.ofString "_law_is_condition"), (PySem.Str.ofString "_law_is_condition"), (PySem.Str.ofString "_law_is_condition"), defArgs s__law_is_condition, defBody s__law_is_condition, defScope s__law_is_condition, [], []⟩
def hd__law_matches : He5.DefA := ⟨fun K => He.ga K (PySem.Str.ofString "_law_matches"), (PySem.Str.ofString "_law_matches"), (PySem.Str.ofString "_law_matches"), defArgs s__law_matches, defBody s__law_matches, defScope s__law_matches, [], []⟩
def hd__law_holds : He5.DefA := ⟨fun K => He.ga K (PySem.Str.ofString "_law_holds"), (PySem.Str.ofString "_law_holds"), (PySem.Str.ofString "_law_holds"), defArgs s__law_holds, defBody s__law_holds, defScope s__law_holds, [], []⟩
def hd_law : He5.DefA := ⟨fun K => He.ga K (PySem.Str.ofString "law"), (PySem.Str.ofString "law"), (PySem.Str.ofString "law"), defArgs s_law, defBody s_law, defScope s_law, [], []⟩
def hd_fn_0 : List He5.DefA := [hd__law_deck, hd__law_draw, hd__law_letter, hd__law_text, hd__law_names, hd__law_pattern, hd__law_part, hd__law_condition, hd_normal, hd_joined, hd_members_of, hd__law_nodes, hd__law_value, hd__law_meaning, hd__law_is_condition, hd__law_matches, hd__law_holds, hd_law]
def hd_fn : List He5.DefA := hd_fn_0
def hd_fa_0 : List He.Fa := [.glo (PySem.Str.ofString "_law_deck"), .glo (PySem.Str.ofString "_law_draw"), .glo (PySem.Str.ofString "_law_letter"), .glo (PySem.Str.ofString "_law_text"), .glo (PySem.Str.ofString "_law_names"), .glo (PySem.Str.ofString "_law_pattern"), .glo (PySem.Str.ofString "_law_part"), .glo (PySem.Str.ofString "_law_condition"), .glo (PySem.Str.ofString "normal"), .glo (PySem.Str.ofString "joined"), .glo (PySem.Str.ofString "members_of"), .glo (PySem.Str.ofString "_law_nodes"), .glo (PySem.Str.ofString "_law_value"), .glo (PySem.Str.ofString "_law_meaning"), .glo (PySem.Str.ofString "_law_is_condition"), .glo (PySem.Str.ofString "_law_matches"), .glo (PySem.Str.ofString "_law_holds"), .glo (PySem.Str.ofString "law"), .free (PySem.Str.ofString "abs"), .free (PySem.Str.ofString "int"), .free (PySem.Str.ofString "isinstance"), .free (PySem.Str.ofString "len"), .free (PySem.Str.ofString "list"), .free (PySem.Str.ofString "min"), .free (PySem.Str.ofString "range"), .free (PySem.Str.ofString "repr"), .free (PySem.Str.ofString "str"), .free (PySem.Str.ofString "tuple"), .glo (PySem.Str.ofString "ALWAYS"), .glo (PySem.Str.ofString "NEVER")]
def hd_fa : List He.Fa := hd_fa_0
def hd_fx_0 : List Fx := [.tup (PySem.Str.ofString "ALWAYS") [(PySem.Str.ofString "always")], .tup (PySem.Str.ofString "NEVER") [(PySem.Str.ofString "never")]]
def hd_fx : List Fx := hd_fx_0
def hd_ts_0 : List TabK := []
def hd_ts : List TabK := hd_ts_0
def hd_names_0 : List Str := [(PySem.Str.ofString "__name__"), (PySem.Str.ofString "ALWAYS"), (PySem.Str.ofString "NEVER"), (PySem.Str.ofString "members_of"), (PySem.Str.ofString "joined"), (PySem.Str.ofString "normal"), (PySem.Str.ofString "_law_deck"), (PySem.Str.ofString "_law_draw"), (PySem.Str.ofString "_law_letter"), (PySem.Str.ofString "_law_text"), (PySem.Str.ofString "_law_names"), (PySem.Str.ofString "_law_pattern"), (PySem.Str.ofString "_law_part"), (PySem.Str.ofString "_law_condition"), (PySem.Str.ofString "_law_matches"), (PySem.Str.ofString "_law_holds"), (PySem.Str.ofString "_law_value"), (PySem.Str.ofString "_law_meaning"), (PySem.Str.ofString "_law_nodes"), (PySem.Str.ofString "_law_is_condition")]
def hd_names : List Str := hd_names_0
abbrev hdR : PySem.W.OpenRow := PySem.W.OpenLaw.row PySem.Challenge.rw_talkalike_k25_normal_form_means_the_same
set_option maxHeartbeats 0 in
theorem hd_run (w : World) : HandSHeadRun.RunEq hdR (PySem.W.view hdR.prog [21]) (hookL hd_fa hd_fx hd_fn hd_ts) (obL hd_fa hd_fx hd_fn hd_ts) 20000 hd_names w := fun os => by kernel_rfl
end Lw
/-! # A denotational layer over HandS: what an expression, a statement, a def computes, as a plain Lean function on data (no heap, no addresses); shown sound once, rule by rule -/
namespace Dn
open PySem L2
open Evl (Ex)

/-! ## 1. Data -/
inductive D where
  | non | bl (b : Bool) | int (i : Int) | str (s : Str) | lst (xs : List D) | tup (xs : List D) | scr (ns : List Int)
  /-- any value: nothing is known of it -/
  | opq
  /-- a dict: its keys and values in order -/
  | dct (ks : List L2.Key) (xs : List D)
  /-- an instance of the program's class c: its attributes in order -/
  | ins (c : Str) (ns : List Str) (xs : List D)
/-- an error: its class's name, and what its own fields hold -/
structure Exn where
  cls : Str
  fs : List (Str × D)
/-- a tree of one's own: lists, dicts and instances in it that may still change -/
inductive T where
  | fr (d : D) | lst (xs : List D) | dct (ks : List L2.Key) (xs : List D)
  /-- a dict whose keys are tuples of whole numbers and texts -/
  | dtt (ks : List (List L2.Key)) (xs : List D)
  | tup (ts : List T) | ins (c : Str) (ns : List Str) (ts : List T)
/-- what a slot holds: frozen data, a list of its own that may still change, a dict of its own, an error that was caught (at a, its fields at d) -/
inductive O where
  | fr (d : D) | lst (xs : List D) | dct (ks : List L2.Key) (xs : List D) | ins (c : Str) (ns : List Str) (xs : List D) | exn (a d : Addr) (x : Exn) | tr (t : T)
def O.d : O → D
  | .fr d => d
  | .lst xs => .lst xs
  | .dct ks xs => .dct ks xs
  | .ins c ns xs => .ins c ns xs
  | .exn _ _ _ => .opq
  | .tr _ => .opq
@[simp] theorem O.d_fr (d : D) : (O.fr d).d = d := rfl
@[simp] theorem O.d_lst (xs : List D) : (O.lst xs).d = .lst xs := rfl
@[simp] theorem O.d_dct (ks : List L2.Key) (xs : List D) : (O.dct ks xs).d = .dct ks xs := rfl
@[simp] theorem O.d_ins (c : Str) (ns : List Str) (xs : List D) : (O.ins c ns xs).d = .ins c ns xs := rfl
/-- the program's class c stands at C -/
def ClsN (K : PySem.W.Frag) (c : Str) (C : Addr) : Prop := PySem.W.nsIn K mainGlobals c = some (some (.ref C))

/-- a tuple: one of the heap's, or a written one of at most one item -/
def SqK (K : PySem.W.Frag) (B : Hp) (a : Addr) (xs : List V) : Prop := B a = some (.tup xs) ∨ (xs.length ≤ 1 ∧ SqT K B a xs)
theorem SqK.sq {K : PySem.W.Frag} {B : Hp} {a : Addr} {xs : List V} (h : SqK K B a xs) : SqT K B a xs := h.elim (fun e => .inl (.inl e)) (·.2)
theorem SqK.ex {K : PySem.W.Frag} {B B' : Hp} {a : Addr} {xs : List V} (e : Ex B B') (h : SqK K B a xs) : SqK K B' a xs := h.imp (e _ _) fun z => ⟨z.1, Evl.ex_t e z.2⟩
mutual
inductive Rep (K : PySem.W.Frag) (B : Hp) : V → D → Prop
  | non : Rep K B .non .non
  | bl (b : Bool) : Rep K B (.bl b) (.bl b)
  | int (i : Int) : Rep K B (.int i) (.int i)
  | str (x : Str) : Rep K B (.str x) (.str x)
  | lst {a : Addr} {xs : List V} {ds : List D} : B a = some (.lst xs) → RepL K B xs ds → Rep K B (.ref a) (.lst ds)
  | tup {a : Addr} {xs : List V} {ds : List D} : SqK K B a xs → RepL K B xs ds → Rep K B (.ref a) (.tup ds)
  | scr {a : Addr} {ns : List Int} : SqL K B a (ns.map V.int) → Rep K B (.ref a) (.scr ns)
  | opq (v : V) : Rep K B v .opq
  | dct {a : Addr} {kv : List (L2.Key × V)} {ks : List L2.Key} {ds : List D} : B a = some (.dK kv) → kv.map (·.1) = ks → RepL K B (kv.map (·.2)) ds → Rep K B (.ref a) (.dct ks ds)
  | ins {a dx C : Addr} {fs : List (Str × V)} {c : Str} {ns : List Str} {ds : List D} : B a = some (.ins C dx fs) → ClsN K c C → fs.map (·.1) = ns → RepL K B (fs.map (·.2)) ds → Rep K B (.ref a) (.ins c ns ds)
inductive RepL (K : PySem.W.Frag) (B : Hp) : List V → List D → Prop
  | nil : RepL K B [] []
  | cons {v : V} {vs : List V} {d : D} {ds : List D} : Rep K B v d → RepL K B vs ds → RepL K B (v :: vs) (d :: ds)
end

section
variable {K : PySem.W.Frag} {B B' H H' : Hp} {v : V} {d : D} {vs : List V} {ds : List D}
mutual
theorem Rep.mono (e : Ex B B') : ∀ {v : V} {d : D}, Rep K B v d → Rep K B' v d
  | _, _, .non => .non
  | _, _, .bl b => .bl b
  | _, _, .int i => .int i
  | _, _, .str x => .str x
  | _, _, .opq v => .opq v
  | _, _, .dct h hk hs => .dct (e _ _ h) hk (RepL.mono e hs)
  | _, _, .ins h hc hk hs => .ins (e _ _ h) hc hk (RepL.mono e hs)
  | _, _, .lst h hs => .lst (e _ _ h) (RepL.mono e hs)
  | _, _, .scr h => .scr (Evl.ex_l e h)
  | _, _, .tup h hs => .tup (SqK.ex e h) (RepL.mono e hs)
theorem RepL.mono (e : Ex B B') : ∀ {vs : List V} {ds : List D}, RepL K B vs ds → RepL K B' vs ds
  | _, _, .nil => .nil
  | _, _, .cons h hs => .cons (Rep.mono e h) (RepL.mono e hs)
end
theorem RepL.length : ∀ {vs : List V} {ds : List D}, RepL K B vs ds → vs.length = ds.length
  | _, _, .nil => rfl
  | _, _, .cons _ hs => by rw [List.length_cons, List.length_cons, hs.length]
theorem RepL.get : ∀ {vs : List V} {ds : List D} {i : Nat} {d : D}, RepL K B vs ds → ds[i]? = some d → ∃ v, vs[i]? = some v ∧ Rep K B v d
  | _, _, _, _, .nil, e => by simp at e
  | _, _, 0, _, .cons h _, e => by simp at e; subst e; exact ⟨_, rfl, h⟩
  | _, _, i + 1, d, .cons _ hs, e => by
    obtain ⟨v, e1, e2⟩ := RepL.get (i := i) (d := d) hs (by simpa using e)
    exact ⟨v, by simpa using e1, e2⟩
theorem RepL.get' : ∀ {vs : List V} {ds : List D} {i : Nat} {v : V}, RepL K B vs ds → vs[i]? = some v → ∃ d, ds[i]? = some d ∧ Rep K B v d
  | _, _, _, _, .nil, e => by simp at e
  | _, _, 0, _, .cons h _, e => by simp at e; subst e; exact ⟨_, rfl, h⟩
  | _, _, i + 1, v, .cons _ hs, e => by
    obtain ⟨d, e1, e2⟩ := RepL.get' (i := i) (v := v) hs (by simpa using e)
    exact ⟨d, by simpa using e1, e2⟩
theorem RepL.append : ∀ {vs ws : List V} {ds es : List D}, RepL K B vs ds → RepL K B ws es → RepL K B (vs ++ ws) (ds ++ es)
  | _, _, _, _, .nil, h => h
  | _, _, _, _, .cons h hs, k => .cons h (RepL.append hs k)
theorem RepL.take : ∀ {vs : List V} {ds : List D} (n : Nat), RepL K B vs ds → RepL K B (vs.take n) (ds.take n)
  | _, _, 0, _ => .nil
  | _, _, _ + 1, .nil => .nil
  | _, _, n + 1, .cons h hs => .cons h (RepL.take n hs)
theorem RepL.drop : ∀ {vs : List V} {ds : List D} (n : Nat), RepL K B vs ds → RepL K B (vs.drop n) (ds.drop n)
  | _, _, 0, h => h
  | _, _, _ + 1, .nil => .nil
  | _, _, n + 1, .cons _ hs => RepL.drop n hs
theorem RepL.set : ∀ {vs : List V} {ds : List D} (n : Nat) {v : V} {d : D}, RepL K B vs ds → Rep K B v d → RepL K B (vs.set n v) (ds.set n d)
  | _, _, _, _, _, .nil, _ => .nil
  | _, _, 0, _, _, .cons _ hs, k => .cons k hs
  | _, _, n + 1, _, _, .cons h hs, k => .cons h (RepL.set n hs k)
theorem RepL.erase : ∀ {vs : List V} {ds : List D} (n : Nat), RepL K B vs ds → RepL K B (vs.eraseIdx n) (ds.eraseIdx n)
  | _, _, _, .nil => .nil
  | _, _, 0, .cons _ hs => hs
  | _, _, n + 1, .cons h hs => .cons h (RepL.erase n hs)
theorem RepL.reverse {vs : List V} {ds : List D} (h : RepL K B vs ds) : RepL K B vs.reverse ds.reverse := by
  induction ds generalizing vs with
  | nil => cases h; exact .nil
  | cons d ds ih =>
    cases h with
    | cons h hs =>
      rw [List.reverse_cons, List.reverse_cons]
      exact (ih hs).append (.cons h .nil)
theorem RepL.one (h : Rep K B v d) : RepL K B [v] [d] := .cons h .nil

theorem repL_ints : ∀ ns : List Int, RepL K B (ns.map V.int) (ns.map D.int)
  | [] => .nil
  | n :: ns => .cons (.int n) (repL_ints ns)
theorem repL_strs : ∀ ns : List Str, RepL K B (ns.map V.str) (ns.map D.str)
  | [] => .nil
  | n :: ns => .cons (.str n) (repL_strs ns)
theorem repL_of_ints : ∀ {vs : List V} {ns : List Int}, RepL K B vs (ns.map D.int) → vs = ns.map V.int
  | _, [], .nil => rfl
  | _, n :: ns, .cons h hs => by
    cases h
    rw [repL_of_ints hs]; rfl
theorem repL_of_strs : ∀ {vs : List V} {ns : List Str}, RepL K B vs (ns.map D.str) → vs = ns.map V.str
  | _, [], .nil => rfl
  | _, n :: ns, .cons h hs => by
    cases h
    rw [repL_of_strs hs]; rfl
theorem repL_of_bools : ∀ {vs : List V} {ns : List Bool}, RepL K B vs (ns.map D.bl) → vs = ns.map V.bl
  | _, [], .nil => rfl
  | _, n :: ns, .cons h hs => by
    cases h
    rw [repL_of_bools hs]; rfl
end

mutual
/-- v stands for the tree t; S: the addresses of its own -/
inductive RepT (K : PySem.W.Frag) (B H : Hp) : V → T → (Addr → Prop) → Prop
  | fr {v : V} {d : D} {S : Addr → Prop} : Rep K B v d → (∀ a, ¬ S a) → RepT K B H v (.fr d) S
  | lst {p : Addr} {xs : List V} {ds : List D} {S : Addr → Prop} : H p = some (.lst xs) → RepL K B xs ds → (∀ a, S a ↔ a = p) → RepT K B H (.ref p) (.lst ds) S
  | dct {p : Addr} {kv : List (L2.Key × V)} {ks : List L2.Key} {ds : List D} {S : Addr → Prop} : H p = some (.dK kv) → kv.map (·.1) = ks → RepL K B (kv.map (·.2)) ds → (∀ a, S a ↔ a = p) → RepT K B H (.ref p) (.dct ks ds) S
  | dtt {p : Addr} {kv : List (List L2.Key × V)} {ks : List (List L2.Key)} {ds : List D} {S : Addr → Prop} : H p = some (.dT kv) → kv.map (·.1) = ks → RepL K B (kv.map (·.2)) ds → (∀ a, S a ↔ a = p) → RepT K B H (.ref p) (.dtt ks ds) S
  | tup {p : Addr} {vs : List V} {ts : List T} {S : Addr → Prop} : SqK K B p vs → RepTs K B H vs ts S → RepT K B H (.ref p) (.tup ts) S
  | ins {p dx C : Addr} {fs : List (Str × V)} {c : Str} {ns : List Str} {ts : List T} {S S1 : Addr → Prop} : H p = some (.ins C dx fs) → ClsN K c C → fs.map (·.1) = ns → RepTs K B H (fs.map (·.2)) ts S1 → ¬ S1 p → (∀ a, S a ↔ a = p ∨ S1 a) → RepT K B H (.ref p) (.ins c ns ts) S
inductive RepTs (K : PySem.W.Frag) (B H : Hp) : List V → List T → (Addr → Prop) → Prop
  | nil {S : Addr → Prop} : (∀ a, ¬ S a) → RepTs K B H [] [] S
  | cons {v : V} {vs : List V} {t : T} {ts : List T} {S S1 S2 : Addr → Prop} : RepT K B H v t S1 → RepTs K B H vs ts S2 → (∀ a, S1 a → ¬ S2 a) → (∀ a, S a ↔ S1 a ∨ S2 a) → RepTs K B H (v :: vs) (t :: ts) S
end
section
variable {K : PySem.W.Frag} {B B' H H' : Hp}
theorem RepT.iff {v : V} {t : T} {S S' : Addr → Prop} (h : RepT K B H v t S) (i : ∀ a, S a ↔ S' a) : RepT K B H v t S' := by
  cases h with
  | fr h n => exact .fr h fun a z => n a ((i a).mpr z)
  | lst h r e => exact .lst h r fun a => (i a).symm.trans (e a)
  | dct h k r e => exact .dct h k r fun a => (i a).symm.trans (e a)
  | dtt h k r e => exact .dtt h k r fun a => (i a).symm.trans (e a)
  | tup h r =>
    cases r with
    | nil n => exact .tup h (.nil fun a z => n a ((i a).mpr z))
    | cons a b d e => exact .tup h (.cons a b d fun x => (i x).symm.trans (e x))
  | ins h c k r n e => exact .ins h c k r n fun a => (i a).symm.trans (e a)
mutual
theorem RepT.frame (hb : Ex B B') : ∀ {v : V} {t : T} {S : Addr → Prop}, RepT K B H v t S → (∀ a o, S a → H a = some o → H' a = some o) → RepT K B' H' v t S
  | _, _, _, .fr h n, _ => .fr (h.mono hb) n
  | _, _, _, .lst h r e, k => .lst (k _ _ ((e _).mpr rfl) h) (r.mono hb) e
  | _, _, _, .dct h q r e, k => .dct (k _ _ ((e _).mpr rfl) h) q (r.mono hb) e
  | _, _, _, .dtt h q r e, k => .dtt (k _ _ ((e _).mpr rfl) h) q (r.mono hb) e
  | _, _, _, .tup h r, k => .tup (SqK.ex hb h) (RepTs.frame hb r k)
  | _, _, _, .ins h c q r n e, k => .ins (k _ _ ((e _).mpr (.inl rfl)) h) c q (RepTs.frame hb r fun a o z => k a o ((e a).mpr (.inr z))) n e
theorem RepTs.frame (hb : Ex B B') : ∀ {vs : List V} {ts : List T} {S : Addr → Prop}, RepTs K B H vs ts S → (∀ a o, S a → H a = some o → H' a = some o) → RepTs K B' H' vs ts S
  | _, _, _, .nil n, _ => .nil n
  | _, _, _, .cons a b d e, k => .cons (RepT.frame hb a fun x o z => k x o ((e x).mpr (.inl z))) (RepTs.frame hb b fun x o z => k x o ((e x).mpr (.inr z))) d e
end
mutual
theorem RepT.kind : ∀ {v : V} {t : T} {S : Addr → Prop}, RepT K B H v t S → ∀ a, S a → ∀ fs, H a ≠ some (.xd fs)
  | _, _, _, .fr h n, a, z, _, _ => n a z
  | _, _, _, .lst h r e, a, z, _, q => by rw [(e a).mp z, h] at q; cases q
  | _, _, _, .dct h _ r e, a, z, _, q => by rw [(e a).mp z, h] at q; cases q
  | _, _, _, .dtt h _ r e, a, z, _, q => by rw [(e a).mp z, h] at q; cases q
  | _, _, _, .tup h r, a, z, fs, q => RepTs.kind r a z fs q
  | _, _, _, .ins h c k r n e, a, z, fs, q => by
    rcases (e a).mp z with z | z
    · rw [z, h] at q; cases q
    · exact RepTs.kind r a z fs q
theorem RepTs.kind : ∀ {vs : List V} {ts : List T} {S : Addr → Prop}, RepTs K B H vs ts S → ∀ a, S a → ∀ fs, H a ≠ some (.xd fs)
  | _, _, _, .nil n, a, z, _, _ => n a z
  | _, _, _, .cons r1 r2 d e, a, z, fs, q => ((e a).mp z).elim (fun z => RepT.kind r1 a z fs q) fun z => RepTs.kind r2 a z fs q
end
end

/-! ## 2. Slots, states, growth -/
abbrev Sl := List (Option O)
inductive Ro (α : Type) where
  | ok (a : α) (e : Sl) | ex (x : Exn) (e : Sl)
abbrev M (α : Type) := Sl → Option (Ro α)
@[inline] def M.pure {α : Type} (a : α) : M α := fun e => some (.ok a e)
@[inline] def M.bind {α β : Type} (m : M α) (f : α → M β) : M β := fun e => match m e with
  | none => none
  | some (.ex x e') => some (.ex x e')
  | some (.ok a e') => f a e'
@[inline] def M.stuck {α : Type} : M α := fun _ => none

/-- what an error's own fields hold -/
def XF (K : PySem.W.Frag) (B : Hp) (fs : List (Str × V)) (gs : List (Str × D)) : Prop := Paired (fun (p : Str × V) (q : Str × D) => p.1 = q.1 ∧ Rep K B p.2 q.2) fs gs
theorem XF.mono {K : PySem.W.Frag} {B B' : Hp} {fs : List (Str × V)} {gs : List (Str × D)} (h : XF K B fs gs) (e : Ex B B') : XF K B' fs gs := Paired.mapP h fun _ _ z => ⟨z.1, z.2.mono e⟩
/-- v stands for o; S: the addresses of its own -/
def RepO (K : PySem.W.Frag) (B H : Hp) (v : V) : O → (Addr → Prop) → Prop
  | .fr d, S => Rep K B v d ∧ ∀ a, ¬ S a
  | .lst ds, S => ∃ p xs, v = .ref p ∧ H p = some (.lst xs) ∧ RepL K B xs ds ∧ ∀ a, S a ↔ a = p
  | .dct ks xs, S => ∃ p kv, v = .ref p ∧ H p = some (.dK kv) ∧ kv.map (·.1) = ks ∧ RepL K B (kv.map (·.2)) xs ∧ ∀ a, S a ↔ a = p
  | .ins c ns xs, S => ∃ p C dx fs, v = .ref p ∧ H p = some (.ins C dx fs) ∧ ClsN K c C ∧ fs.map (·.1) = ns ∧ RepL K B (fs.map (·.2)) xs ∧ ∀ a, S a ↔ a = p
  | .exn a d x, S => v = .ref a ∧ (∃ fs, B d = some (.xd fs) ∧ XF K B fs x.fs) ∧ ∀ a, ¬ S a
  | .tr t, S => RepT K B H v t S
/-- the addresses of one's own: live, not frozen -/
def Own (B H : Hp) (S : Addr → Prop) : Prop := ∀ a, S a → B a = none ∧ ∃ o, H a = some o

structure Rp (K : PySem.W.Frag) (B H : Hp) (σ : St) (e : Sl) (S : Nat → Addr → Prop) : Prop where
  len : σ.length = e.length
  ex : Ex B H
  rep : ∀ i o, e[i]? = some (some o) → ∃ v, σ[i]? = some (some v) ∧ RepO K B H v o (S i)
  dis : ∀ i j a, S i a → S j a → i = j
  own : ∀ i, Own B H (S i)
def tot (S : Nat → Addr → Prop) : Addr → Prop := fun a => ∃ i, S i a
/-- from (B, H) with the own addresses S to (B', H') with S' -/
structure Fr (B H : Hp) (S : Addr → Prop) (B' H' : Hp) (S' : Addr → Prop) : Prop where
  b : Ex B B'
  k : ∀ a o, H a = some o → ¬ S a → H' a = some o
  n : ∀ a, S' a → S a ∨ H a = none
  c : ∀ a o, B' a = some o → B a = some o ∨ S a ∨ H a = none
  a : ∀ a o, H a = some o → ∃ o', H' a = some o'
def noS : Addr → Prop := fun _ => False

theorem Fr.refl (B H : Hp) (S : Addr → Prop) : Fr B H S B H S := ⟨Ex.refl B, fun _ _ h _ => h, fun _ h => .inl h, fun _ _ h => .inl h, fun _ o h => ⟨o, h⟩⟩
theorem Fr.trans {B H B1 H1 B2 H2 : Hp} {S S1 S2 : Addr → Prop} (f : Fr B H S B1 H1 S1) (g : Fr B1 H1 S1 B2 H2 S2) : Fr B H S B2 H2 S2 := by
  have nn : ∀ a, H1 a = none → H a = none := fun a h => by
    cases q : H a with
    | none => rfl
    | some o => obtain ⟨o', e⟩ := f.a a o q; rw [h] at e; cases e
  refine ⟨f.b.trans g.b, fun a o h hs => ?_, fun a h => ?_, fun a o h => ?_, fun a o h => ?_⟩
  · refine g.k a o (f.k a o h hs) fun z => ?_
    rcases f.n a z with z | z
    · exact hs z
    · rw [h] at z; cases z
  · rcases g.n a h with z | z
    · exact f.n a z
    · exact .inr (nn a z)
  · rcases g.c a o h with z | z | z
    · exact f.c a o z
    · rcases f.n a z with y | y
      · exact .inr (.inl y)
      · exact .inr (.inr y)
    · exact .inr (.inr (nn a z))
  · obtain ⟨o', e⟩ := f.a a o h
    exact g.a a o' e
/-- what is free behind was free ahead -/
theorem Fr.back {B H B1 H1 : Hp} {S S1 : Addr → Prop} (f : Fr B H S B1 H1 S1) {a : Addr} (h : H1 a = none) : H a = none := by
  cases q : H a with
  | none => rfl
  | some o => obtain ⟨o', e⟩ := f.a a o q; rw [h] at e; cases e
/-- fewer own addresses behind, more ahead -/
theorem Fr.imp {B H B1 H1 : Hp} {S S1 S' S1' : Addr → Prop} (f : Fr B H S B1 H1 S1) (h : ∀ a, S a → S' a) (h1 : ∀ a, S1' a → S1 a) : Fr B H S' B1 H1 S1' :=
  ⟨f.b, fun a o e n => f.k a o e fun z => n (h a z), fun a z => (f.n a (h1 a z)).elim (fun y => .inl (h a y)) .inr, fun a o e => (f.c a o e).elim .inl fun y => .inr (y.elim (fun z => .inl (h a z)) .inr), f.a⟩

section
variable {K : PySem.W.Frag} {B B' H H' : Hp} {v : V} {o : O} {σ : St} {e : Sl} {S S' : Nat → Addr → Prop} {T T' : Addr → Prop}
theorem RepO.frame (h : RepO K B H v o T) (ho : Own B H T) (hd : ∀ a, T a → ¬ T' a) {T2 : Addr → Prop} (f : Fr B H T' B' H' T2) : RepO K B' H' v o T ∧ Own B' H' T ∧ ∀ a, T a → ¬ T2 a := by
  have hk : ∀ a o, T a → H a = some o → H' a = some o := fun a o ht e => f.k a o e (hd a ht)
  refine ⟨?_, fun a ht => ?_, fun a ht z => ?_⟩
  · cases o with
    | fr d => exact ⟨h.1.mono f.b, h.2⟩
    | lst ds =>
      obtain ⟨p, xs, e, hp, hr, hs⟩ := h
      exact ⟨p, xs, e, hk p _ ((hs p).mpr rfl) hp, hr.mono f.b, hs⟩
    | dct kvs =>
      obtain ⟨p, kv, e, hp, hk', hr, hs⟩ := h
      exact ⟨p, kv, e, hk p _ ((hs p).mpr rfl) hp, hk', hr.mono f.b, hs⟩
    | ins c ns xs =>
      obtain ⟨p, C, dx, fs, e, hp, hc, hk', hr, hs⟩ := h
      exact ⟨p, C, dx, fs, e, hk p _ ((hs p).mpr rfl) hp, hc, hk', hr.mono f.b, hs⟩
    | exn a d x =>
      obtain ⟨e, ⟨fs, hd, hx⟩, hs⟩ := h
      exact ⟨e, ⟨fs, f.b _ _ hd, hx.mono f.b⟩, hs⟩
    | tr t => exact RepT.frame f.b h hk
  · obtain ⟨h1, o, h2⟩ := ho a ht
    refine ⟨?_, o, hk a o ht h2⟩
    cases q : B' a with
    | none => rfl
    | some u =>
      rcases f.c a u q with z | z | z
      · rw [h1] at z; cases z
      · exact absurd z (hd a ht)
      · rw [h2] at z; cases z
  · rcases f.n a z with y | y
    · exact hd a ht y
    · obtain ⟨_, o, h2⟩ := ho a ht
      rw [h2] at y; cases y
/-- what a one-way growth does: new objects only -/
structure Gr (B H B' H' : Hp) : Prop where
  b : Ex B B'
  h : Ex H H'
  s : Ex B' H'
  c : ∀ a o, B' a = some o → B a = some o ∨ H a = none
theorem Gr.refl (h : Ex B H) : Gr B H B H := ⟨Ex.refl B, Ex.refl H, h, fun _ _ e => .inl e⟩
theorem Gr.trans {B1 H1 B2 H2 : Hp} (f : Gr B H B1 H1) (g : Gr B1 H1 B2 H2) : Gr B H B2 H2 :=
  ⟨f.b.trans g.b, f.h.trans g.h, g.s, fun a o e => (g.c a o e).elim (fun z => f.c a o z) fun z => .inr (Evl.fresh_back f.h z)⟩
/-- a new frozen object -/
theorem Gr.new (h : Ex B H) {p : Addr} (hp : H p = none) (o : HO) : Gr B H (upd B p o) (upd H p o) := by
  have hb : B p = none := by
    cases q : B p with
    | none => rfl
    | some u => have := h p u q; rw [hp] at this; cases this
  refine ⟨Ex.new hb, Ex.new hp, fun a u e => ?_, fun a u e => ?_⟩
  · by_cases ha : a = p
    · subst ha; rw [upd_same] at e ⊢; exact e
    · rw [upd_ne ha] at e ⊢; exact h a u e
  · by_cases ha : a = p
    · subst ha; exact .inr hp
    · rw [upd_ne ha] at e; exact .inl e
/-- a new object of one's own -/
theorem Gr.own (h : Ex B H) {p : Addr} (hp : H p = none) (o : HO) : Gr B H B (upd H p o) :=
  ⟨Ex.refl B, Ex.new hp, h.trans (Ex.new hp), fun _ _ e => .inl e⟩
theorem Gr.fr (g : Gr B H B' H') (T : Addr → Prop) : Fr B H T B' H' T :=
  ⟨g.b, fun a o h _ => g.h a o h, fun _ h => .inl h, fun a o h => (g.c a o h).elim .inl fun z => .inr (.inr z), fun a o h => ⟨o, g.h a o h⟩⟩
theorem RepO.grow (h : RepO K B H v o T) (g : Gr B H B' H') : RepO K B' H' v o T := by
  cases o with
  | fr d => exact ⟨h.1.mono g.b, h.2⟩
  | lst ds =>
    obtain ⟨p, xs, e, hp, hr, hs⟩ := h
    exact ⟨p, xs, e, g.h p _ hp, hr.mono g.b, hs⟩
  | dct kvs =>
    obtain ⟨p, kv, e, hp, hk', hr, hs⟩ := h
    exact ⟨p, kv, e, g.h p _ hp, hk', hr.mono g.b, hs⟩
  | ins c ns xs =>
    obtain ⟨p, C, dx, fs, e, hp, hc, hk', hr, hs⟩ := h
    exact ⟨p, C, dx, fs, e, g.h p _ hp, hc, hk', hr.mono g.b, hs⟩
  | exn a d x =>
    obtain ⟨e, ⟨fs, hd, hx⟩, hs⟩ := h
    exact ⟨e, ⟨fs, g.b _ _ hd, hx.mono g.b⟩, hs⟩
  | tr t => exact RepT.frame g.b h fun a o _ q => g.h a o q
theorem Own.grow (h : Own B H T) (g : Gr B H B' H') : Own B' H' T := fun a ha => by
  obtain ⟨h1, o, h2⟩ := h a ha
  refine ⟨?_, o, g.h a o h2⟩
  cases q : B' a with
  | none => rfl
  | some u =>
    rcases g.c a u q with z | z
    · rw [h1] at z; cases z
    · rw [h2] at z; cases z
theorem Rp.grow (h : Rp K B H σ e S) (g : Gr B H B' H') : Rp K B' H' σ e S :=
  ⟨h.len, g.s, fun i o ho => let ⟨v, h1, h2⟩ := h.rep i o ho; ⟨v, h1, h2.grow g⟩, h.dis, fun i => (h.own i).grow g⟩
/-- the same slots, the own addresses of some -/
theorem Rp.mem (h : Rp K B H σ e S) {i : Nat} (hi : e[i]? = some (some o)) : ∃ v, σ[i]? = some (some v) ∧ RepO K B H v o (S i) := h.rep i o hi

/-- a value beside the slots -/
structure Vl (K : PySem.W.Frag) (B H : Hp) (σ : St) (e : Sl) (S : Nat → Addr → Prop) (v : V) (o : O) (T : Addr → Prop) : Prop where
  rp : Rp K B H σ e S
  ro : RepO K B H v o T
  own : Own B H T
  dj : ∀ a, T a → ¬ tot S a
theorem own_no : Own B H noS := fun _ h => h.elim
theorem Vl.fr (h : Rp K B H σ e S) {d : D} (r : Rep K B v d) : Vl K B H σ e S v (.fr d) noS := ⟨h, ⟨r, fun _ z => z⟩, own_no, fun _ z => z.elim⟩

/-- v into slot i -/
theorem Vl.set (h : Vl K B H σ e S v o T) (i : Nat) : Rp K B H (σ.set i (some v)) (e.set i (some o)) (fun j => if j = i then (if i < e.length then T else noS) else S j) := by
  refine ⟨by rw [List.length_set, List.length_set, h.rp.len], h.rp.ex, fun j o' ho => ?_, fun j k a h1 h2 => ?_, fun j a h1 => ?_⟩
  · by_cases hj : j = i
    · subst hj
      have hl : j < e.length := by
        have := (List.getElem?_eq_some_iff.mp ho).1
        rwa [List.length_set] at this
      rw [List.getElem?_set_self hl] at ho
      cases ho
      refine ⟨v, by rw [List.getElem?_set_self (by rw [h.rp.len]; exact hl)], ?_⟩
      simp only [if_pos hl, if_true]
      exact h.ro
    · rw [List.getElem?_set_ne (Ne.symm hj)] at ho
      obtain ⟨w, h1, h2⟩ := h.rp.rep j o' ho
      exact ⟨w, by rw [List.getElem?_set_ne (Ne.symm hj)]; exact h1, by rw [if_neg hj]; exact h2⟩
  · by_cases hj : j = i <;> by_cases hk : k = i
    · rw [hj, hk]
    · simp only [hj, if_true] at h1
      rw [if_neg hk] at h2
      by_cases hl : i < e.length
      · rw [if_pos hl] at h1; exact absurd ⟨k, h2⟩ (h.dj a h1)
      · rw [if_neg hl] at h1; exact h1.elim
    · simp only [hk, if_true] at h2
      rw [if_neg hj] at h1
      by_cases hl : i < e.length
      · rw [if_pos hl] at h2; exact absurd ⟨j, h1⟩ (h.dj a h2)
      · rw [if_neg hl] at h2; exact h2.elim
    · rw [if_neg hj] at h1; rw [if_neg hk] at h2
      exact h.rp.dis j k a h1 h2
  · by_cases hj : j = i
    · simp only [hj, if_true] at h1
      by_cases hl : i < e.length
      · rw [if_pos hl] at h1; exact h.own a h1
      · rw [if_neg hl] at h1; exact h1.elim
    · rw [if_neg hj] at h1; exact h.rp.own j a h1
theorem tot_set {i : Nat} {n : Nat} {a : Addr} (h : tot (fun j => if j = i then (if i < n then T else noS) else S j) a) : T a ∨ tot S a := by
  obtain ⟨j, h⟩ := h
  by_cases hj : j = i
  · simp only [hj, if_true] at h
    by_cases hl : i < n
    · rw [if_pos hl] at h; exact .inl h
    · rw [if_neg hl] at h; exact h.elim
  · rw [if_neg hj] at h; exact .inr ⟨j, h⟩
/-- a slot forgotten -/
theorem Rp.forget (h : Rp K B H σ e S) (i : Nat) : Rp K B H σ (e.set i none) (fun j => if j = i then noS else S j) := by
  refine ⟨by rw [List.length_set]; exact h.len, h.ex, fun j o ho => ?_, fun j k a h1 h2 => ?_, fun j a h1 => ?_⟩
  · by_cases hj : j = i
    · subst hj
      by_cases hl : j < e.length
      · rw [List.getElem?_set_self hl] at ho; cases ho
      · rw [List.getElem?_eq_none (by rw [List.length_set]; omega)] at ho; cases ho
    · rw [List.getElem?_set_ne (Ne.symm hj)] at ho
      obtain ⟨w, h1, h2⟩ := h.rep j o ho
      exact ⟨w, h1, by rw [if_neg hj]; exact h2⟩
  · by_cases hj : j = i
    · rw [if_pos hj] at h1; exact h1.elim
    · by_cases hk : k = i
      · rw [if_pos hk] at h2; exact h2.elim
      · rw [if_neg hj] at h1; rw [if_neg hk] at h2
        exact h.dis j k a h1 h2
  · by_cases hj : j = i
    · rw [if_pos hj] at h1; exact h1.elim
    · rw [if_neg hj] at h1; exact h.own j a h1
theorem tot_forget {i : Nat} {a : Addr} (h : tot (fun j => if j = i then noS else S j) a) : tot S a := by
  obtain ⟨j, h⟩ := h
  by_cases hj : j = i
  · rw [if_pos hj] at h; exact h.elim
  · rw [if_neg hj] at h; exact ⟨j, h⟩

/-- what is one's own is frozen: the heap stays, more of it counts as frozen -/
theorem freeze (h : RepO K B H v o T) (hx : Ex B H) (ho : Own B H T) : ∃ B', Rep K B' v o.d ∧ Ex B B' ∧ Ex B' H ∧ (∀ a u, B' a = some u → B a = some u ∨ T a) ∧ ∀ a, ¬ T a → B' a = B a := by
  cases o with
  | fr d => exact ⟨B, h.1, Ex.refl B, hx, fun a u e => .inl e, fun _ _ => rfl⟩
  | exn a d x => exact ⟨B, .opq v, Ex.refl B, hx, fun a u e => .inl e, fun _ _ => rfl⟩
  | tr t => exact ⟨B, .opq v, Ex.refl B, hx, fun a u e => .inl e, fun _ _ => rfl⟩
  | lst ds =>
    obtain ⟨p, xs, e, hp, hr, hs⟩ := h
    have hb : B p = none := (ho p ((hs p).mpr rfl)).1
    refine ⟨upd B p (.lst xs), ?_, Ex.new hb, fun a u q => ?_, fun a u q => ?_, fun a q => upd_ne fun z => q ((hs a).mpr z)⟩
    · subst e
      exact .lst upd_same (hr.mono (Ex.new hb))
    · by_cases ha : a = p
      · subst ha; rw [upd_same] at q; cases q; exact hp
      · rw [upd_ne ha] at q; exact hx a u q
    · by_cases ha : a = p
      · exact .inr ((hs a).mpr ha)
      · rw [upd_ne ha] at q; exact .inl q
  | dct ks ds =>
    obtain ⟨p, kv, e, hp, hk, hr, hs⟩ := h
    have hb : B p = none := (ho p ((hs p).mpr rfl)).1
    refine ⟨upd B p (.dK kv), ?_, Ex.new hb, fun a u q => ?_, fun a u q => ?_, fun a q => upd_ne fun z => q ((hs a).mpr z)⟩
    · subst e
      exact .dct upd_same hk (hr.mono (Ex.new hb))
    · by_cases ha : a = p
      · subst ha; rw [upd_same] at q; cases q; exact hp
      · rw [upd_ne ha] at q; exact hx a u q
    · by_cases ha : a = p
      · exact .inr ((hs a).mpr ha)
      · rw [upd_ne ha] at q; exact .inl q
  | ins c ns ds =>
    obtain ⟨p, C, dx, fs, e, hp, hc, hk, hr, hs⟩ := h
    have hb : B p = none := (ho p ((hs p).mpr rfl)).1
    refine ⟨upd B p (.ins C dx fs), ?_, Ex.new hb, fun a u q => ?_, fun a u q => ?_, fun a q => upd_ne fun z => q ((hs a).mpr z)⟩
    · subst e
      exact .ins upd_same hc hk (hr.mono (Ex.new hb))
    · by_cases ha : a = p
      · subst ha; rw [upd_same] at q; cases q; exact hp
      · rw [upd_ne ha] at q; exact hx a u q
    · by_cases ha : a = p
      · exact .inr ((hs a).mpr ha)
      · rw [upd_ne ha] at q; exact .inl q
theorem Rp.bgrow (h : Rp K B H σ e S) (hb : Ex B B') (hx : Ex B' H) (hc : ∀ i a, S i a → B' a = none) : Rp K B' H σ e S :=
  ⟨h.len, hx, fun i o ho => by
    obtain ⟨v, h1, h2⟩ := h.rep i o ho
    refine ⟨v, h1, ?_⟩
    cases o with
    | fr d => exact ⟨h2.1.mono hb, h2.2⟩
    | lst ds =>
      obtain ⟨p, xs, e, hp, hr, hs⟩ := h2
      exact ⟨p, xs, e, hp, hr.mono hb, hs⟩
    | dct kvs =>
      obtain ⟨p, kv, e, hp, hk, hr, hs⟩ := h2
      exact ⟨p, kv, e, hp, hk, hr.mono hb, hs⟩
    | ins c ns xs =>
      obtain ⟨p, C, dx, fs, e, hp, hc, hk, hr, hs⟩ := h2
      exact ⟨p, C, dx, fs, e, hp, hc, hk, hr.mono hb, hs⟩
    | exn a d x =>
      obtain ⟨e, ⟨fs, hd, hx⟩, hs⟩ := h2
      exact ⟨e, ⟨fs, hb _ _ hd, hx.mono hb⟩, hs⟩
    | tr t => exact RepT.frame hb h2 fun a o _ q => q, h.dis, fun i a ha => ⟨hc i a ha, (h.own i a ha).2⟩⟩
/-- a value beside the slots frozen -/
theorem Vl.freeze (h : Vl K B H σ e S v o T) : ∃ B', Vl K B' H σ e S v (.fr o.d) noS ∧ Fr B H T B' H noS := by
  obtain ⟨B', r, hb, hx, hc, _⟩ := Dn.freeze h.ro h.rp.ex h.own
  refine ⟨B', .fr (h.rp.bgrow hb hx fun i a ha => ?_) r, ⟨hb, fun _ _ q _ => q, fun _ z => z.elim, fun a u q => (hc a u q).elim .inl fun z => .inr (.inl z), fun _ o q => ⟨o, q⟩⟩⟩
  cases q : B' a with
  | none => rfl
  | some u =>
    rcases hc a u q with z | z
    · rw [(h.rp.own i a ha).1] at z; cases z
    · exact absurd ⟨i, ha⟩ (h.dj a z)
/-- a slot frozen where it stands -/
theorem Rp.freeze (h : Rp K B H σ e S) {i : Nat} (hi : e[i]? = some (some o)) : ∃ B' v, σ[i]? = some (some v) ∧ Rep K B' v o.d ∧
    Rp K B' H σ (e.set i (some (.fr o.d))) (fun j => if j = i then noS else S j) ∧ Fr B H (tot S) B' H (tot (fun j => if j = i then noS else S j)) := by
  obtain ⟨v, hv, ro⟩ := h.rep i o hi
  obtain ⟨B', r, hb, hx, hc, _⟩ := Dn.freeze ro h.ex (h.own i)
  have hl : i < e.length := (List.getElem?_eq_some_iff.mp hi).1
  have hn : ∀ j a, j ≠ i → S j a → B' a = none := fun j a hj ha => by
    cases q : B' a with
    | none => rfl
    | some u =>
      rcases hc a u q with z | z
      · rw [(h.own j a ha).1] at z; cases z
      · exact absurd (h.dis j i a ha z) hj
  refine ⟨B', v, hv, r, ⟨by rw [List.length_set]; exact h.len, hx, fun j o' ho => ?_, fun j k a h1 h2 => ?_, fun j a h1 => ?_⟩, ⟨hb, fun _ _ q _ => q, fun a z => .inl (tot_forget z), fun a u q => (hc a u q).elim .inl fun z => .inr (.inl ⟨i, z⟩), fun _ o q => ⟨o, q⟩⟩⟩
  · by_cases hj : j = i
    · subst hj
      rw [List.getElem?_set_self hl] at ho
      cases ho
      exact ⟨v, hv, by simp only [if_true]; exact ⟨r, fun _ z => z⟩⟩
    · rw [List.getElem?_set_ne (Ne.symm hj)] at ho
      obtain ⟨w, h1, h2⟩ := h.rep j o' ho
      refine ⟨w, h1, ?_⟩
      rw [if_neg hj]
      cases o' with
      | fr d => exact ⟨h2.1.mono hb, h2.2⟩
      | lst ds =>
        obtain ⟨p, xs, e, hp, hr, hs⟩ := h2
        exact ⟨p, xs, e, hp, hr.mono hb, hs⟩
      | dct kvs =>
        obtain ⟨p, kv, e, hp, hk, hr, hs⟩ := h2
        exact ⟨p, kv, e, hp, hk, hr.mono hb, hs⟩
      | ins c ns xs =>
        obtain ⟨p, C, dx, fs, e, hp, hc, hk, hr, hs⟩ := h2
        exact ⟨p, C, dx, fs, e, hp, hc, hk, hr.mono hb, hs⟩
      | exn a d x =>
        obtain ⟨e, ⟨fs, hd, hx⟩, hs⟩ := h2
        exact ⟨e, ⟨fs, hb _ _ hd, hx.mono hb⟩, hs⟩
      | tr t => exact RepT.frame hb h2 fun a o _ q => q
  · by_cases hj : j = i
    · rw [if_pos hj] at h1; exact h1.elim
    · by_cases hk : k = i
      · rw [if_pos hk] at h2; exact h2.elim
      · rw [if_neg hj] at h1; rw [if_neg hk] at h2
        exact h.dis j k a h1 h2
  · by_cases hj : j = i
    · rw [if_pos hj] at h1; exact h1.elim
    · rw [if_neg hj] at h1; exact ⟨hn j a hj h1, (h.own j a h1).2⟩
end
end Dn

namespace Dn
open PySem L2
open Evl (Ex)

/-! ## 3. What is computed -/
inductive Fl where
  | next | ret (o : O) | brk | cnt
/-- an operand: a slot that is only looked at, or a value -/
inductive P where
  | b (i : Nat) | v (f : M O)
def ops : List P → M (List D)
  | [] => M.pure []
  | .b i :: ps => fun e => match e[i]? with
    | some (some _) => (ops ps).bind (fun ds e' => match e'[i]? with
      | some (some o) => some (.ok (o.d :: ds) e')
      | _ => none) e
    | _ => none
  | .v f :: ps => f.bind fun o => (ops ps).bind fun ds => M.pure (o.d :: ds)
/-- an operation on operands -/
def ap (g : List D → Option O) (ps : List P) : M O := (ops ps).bind fun ds e => (g ds).map fun o => .ok o e
def eC (d : D) : M O := M.pure (.fr d)
/-- a name, its value kept from now on by others too -/
def eVar (i : Nat) : M O := fun e => match e[i]? with
  | some (some (.fr d)) => some (.ok (.fr d) e)
  | some (some (.lst ds)) => some (.ok (.fr (.lst ds)) (e.set i (some (.fr (.lst ds)))))
  | some (some (.dct ks ds)) => some (.ok (.fr (.dct ks ds)) (e.set i (some (.fr (.dct ks ds)))))
  | some (some (.ins c ns ds)) => some (.ok (.fr (.ins c ns ds)) (e.set i (some (.fr (.ins c ns ds)))))
  | _ => none
/-- a name that is not looked at again -/
def eMove (i : Nat) : M O := fun e => match e[i]? with
  | some (some (.fr d)) => some (.ok (.fr d) e)
  | some (some o) => some (.ok o (e.set i none))
  | _ => none
/-- a value that is kept by others -/
def eFz (f : M O) : M O := f.bind fun o => M.pure (.fr o.d)
def eIf (c : M Bool) (f g : M O) : M O := c.bind fun b => if b then f else g
def eAnd (f g : M O) : M O := f.bind fun o => match o with
  | .fr (.bl true) => g
  | .fr (.bl false) => M.pure (.fr (.bl false))
  | _ => M.stuck
def eOr (f g : M O) : M O := f.bind fun o => match o with
  | .fr (.bl false) => g
  | .fr (.bl true) => M.pure (.fr (.bl true))
  | _ => M.stuck
def eNot (f : M O) : M O := f.bind fun o => match o with
  | .fr (.bl b) => M.pure (.fr (.bl (!b)))
  | _ => M.stuck
/-- a value that is True or False, as a test -/
def tst (f : M O) : M Bool := f.bind fun o => match o with
  | .fr (.bl b) => M.pure b
  | _ => M.stuck
def cAnd (c d : M Bool) : M Bool := c.bind fun b => if b then d else M.pure false
def cOr (c d : M Bool) : M Bool := c.bind fun b => if b then M.pure true else d
def cNot (c : M Bool) : M Bool := c.bind fun b => M.pure (!b)
/-- the items of a display -/
def items : List (M O) → M (List D)
  | [] => M.pure []
  | f :: fs => f.bind fun o => (items fs).bind fun ds => M.pure (o.d :: ds)
def eTup (fs : List (M O)) : M O := (items fs).bind fun ds => M.pure (.fr (.tup ds))
def eLst (fs : List (M O)) : M O := (items fs).bind fun ds => M.pure (.lst ds)

def sNext : M Fl := M.pure .next
def sSeq (a b : M Fl) : M Fl := a.bind fun f => match f with
  | .next => b
  | .ret o => M.pure (.ret o)
  | .brk => M.pure .brk
  | .cnt => M.pure .cnt
def sIf (c : M Bool) (a b : M Fl) : M Fl := c.bind fun t => if t then a else b
def sRet (f : M O) : M Fl := f.bind fun o => M.pure (.ret o)
def sBrk : M Fl := M.pure .brk
def sCnt : M Fl := M.pure .cnt
def sDrop (f : M O) : M Fl := f.bind fun _ => M.pure .next
def sSet (i : Nat) (f : M O) : M Fl := f.bind fun o e => some (.ok .next (e.set i (some o)))

/-! ## 4. Judgements -/
def Post {α : Type} (r : Option (Ro α)) (ok : α → Sl → Prop) (ex : Exn → Sl → Prop) : Prop := match r with
  | none => False
  | some (.ok a e) => ok a e
  | some (.ex x e) => ex x e
theorem Post.bind {α β : Type} {m : M α} {f : α → M β} {e : Sl} {ok : β → Sl → Prop} {ex : Exn → Sl → Prop} (h : Post (M.bind m f e) ok ex) : Post (m e) (fun a e' => Post (f a e') ok ex) ex := by
  unfold M.bind at h
  cases q : m e with
  | none => rw [q] at h; exact h
  | some r => cases r <;> (rw [q] at h; exact h)
theorem Post.imp {α : Type} {r : Option (Ro α)} {ok ok' : α → Sl → Prop} {ex ex' : Exn → Sl → Prop} (h : Post r ok ex) (h1 : ∀ a e, ok a e → ok' a e) (h2 : ∀ x e, ex x e → ex' x e) : Post r ok' ex' := by
  cases r with
  | none => exact h
  | some r => cases r with
    | ok a e => exact h1 a e h
    | ex x e => exact h2 x e h

/-- the slots ks hold what they held -/
def Kp (ks : List Nat) (σ σ' : St) : Prop := ∀ i ∈ ks, σ'[i]? = σ[i]?
theorem Kp.refl (ks : List Nat) (σ : St) : Kp ks σ σ := fun _ _ => rfl
theorem Kp.trans {ks : List Nat} {σ σ1 σ2 : St} (a : Kp ks σ σ1) (b : Kp ks σ1 σ2) : Kp ks σ σ2 := fun i hi => (b i hi).trans (a i hi)
theorem Kp.set {ks : List Nat} {σ : St} {i : Nat} {v : Option V} (h : i ∉ ks) : Kp ks σ (σ.set i v) := fun j hj => by
  rw [List.getElem?_set_ne]
  intro e
  subst e
  exact h hj

section
variable (K : PySem.W.Frag) (mg : Str → Option Value) (W : WX)
def ExS (ks : List Nat) (B H : Hp) (S : Nat → Addr → Prop) (σ : St) (x : Exn) (e' : Sl) : Prop :=
  ∀ (C d : Addr) (fs : List (Str × V)) (σ' : St) (B' H' : Hp) (S' : Nat → Addr → Prop), mg x.cls = some (.ref C) → Rp K B' H' σ' e' S' → H' d = some (.xd fs) → XF K B' fs x.fs → H d = none → Kp ks σ σ' → Fr B H (tot S) B' H' (tot S') → W (.ref C) (some d) σ' H'
/-- an error out of an expression: the slots are as they were -/
def ExE (B H : Hp) (S : Nat → Addr → Prop) (σ : St) (x : Exn) (e' : Sl) : Prop :=
  ∀ (C d : Addr) (fs : List (Str × V)) (B' H' : Hp) (S' : Nat → Addr → Prop), mg x.cls = some (.ref C) → Rp K B' H' σ e' S' → H' d = some (.xd fs) → XF K B' fs x.fs → H d = none → Fr B H (tot S) B' H' (tot S') → W (.ref C) (some d) σ H'
def tE (f : M O) : TE := fun σ H Q => ∃ B e S, Rp K B H σ e S ∧ Post (f e)
  (fun o e' => ∀ v B' H' S' T, Vl K B' H' σ e' S' v o T → Fr B H (tot S) B' H' (fun a => T a ∨ tot S' a) → Q v H') (fun x e' => ExE K mg W B H S σ x e')
def tT (f : M Bool) : TT := fun σ H Q => ∃ B e S, Rp K B H σ e S ∧ Post (f e)
  (fun b e' => ∀ B' H' S', Rp K B' H' σ e' S' → Fr B H (tot S) B' H' (tot S') → Q b H') (fun x e' => ExE K mg W B H S σ x e')
def tP : P → TE
  | .b i => tVar i
  | .v f => tE K mg W f
def tPs : List P → TA
  | [] => tNil
  | p :: ps => tCons (tP K mg W p) (tPs ps)
def tS (ks : List Nat) (g : M Fl) : TS := fun D σ H => ∃ B e S, Rp K B H σ e S ∧ Post (g e)
  (fun fl e' => match fl with
    | .next => ∀ σ' B' H' S', Rp K B' H' σ' e' S' → Kp ks σ σ' → Fr B H (tot S) B' H' (tot S') → D.nx σ' H'
    | .brk => ∀ σ' B' H' S', Rp K B' H' σ' e' S' → Kp ks σ σ' → Fr B H (tot S) B' H' (tot S') → D.bk σ' H'
    | .cnt => ∀ σ' B' H' S', Rp K B' H' σ' e' S' → Kp ks σ σ' → Fr B H (tot S) B' H' (tot S') → D.ct σ' H'
    | .ret o => ∀ v σ' B' H' S' T, Vl K B' H' σ' e' S' v o T → Kp ks σ σ' → Fr B H (tot S) B' H' (fun a => T a ∨ tot S' a) → D.rt v H') (fun x e' => ExS K mg W ks B H S σ x e')
end

theorem pe_imp {X : Cx} {e : Expr} {t t' : TE} (h : PE X e t) (i : ∀ σ H Q, t' σ H Q → t σ H Q) : PE X e t' := ⟨fun pins s σ H Q I q => h.run pins s σ H Q I (i σ H Q q)⟩
theorem pt_imp {X : Cx} {e : Expr} {t t' : TT} (h : PT X e t) (i : ∀ σ H Q, t' σ H Q → t σ H Q) : PT X e t' := ⟨fun pins s σ H Q I q => h.run pins s σ H Q I (i σ H Q q)⟩
theorem pw_imp {X : Cx} {e : Expr} {t t' : TT} (h : PW X e t) (i : ∀ σ H Q, t' σ H Q → t σ H Q) : PW X e t' := ⟨fun w pins s σ H Q I q => h.run w pins s σ H Q I (i σ H Q q)⟩
theorem pa_imp {X : Cx} {e : List Expr} {t t' : TA} (h : PA X e t) (i : ∀ σ H Q, t' σ H Q → t σ H Q) : PA X e t' := ⟨fun p pins s σ H Q I q => h.run p pins s σ H Q I (i σ H Q q)⟩
theorem ps_imp {X : Cx} {e : Stmt} {t t' : TS} (h : PS X e t) (i : ∀ D σ H, t' D σ H → t D σ H) : PS X e t' := ⟨fun pins s σ H D I q => h.run pins s σ H D I (i D σ H q)⟩
theorem pss_imp {X : Cx} {e : List Stmt} {t t' : TS} (h : PSs X e t) (i : ∀ D σ H, t' D σ H → t D σ H) : PSs X e t' := ⟨fun pins s σ H D I q => h.run pins s σ H D I (i D σ H q)⟩

section
variable {K : PySem.W.Frag} {mg : Str → Option Value} {W : WX} {B B' H H' : Hp} {v x y : V} {o : O} {d : D} {σ : St} {e e' : Sl} {S S' : Nat → Addr → Prop} {T T' : Addr → Prop} {ks : List Nat}
theorem ExS.step {σ1 : St} {x : Exn} (h : ExS K mg W ks B H S σ x e') (k : Kp ks σ σ1) (f : Fr B H (tot S) B' H' (tot S')) : ExS K mg W ks B' H' S' σ1 x e' :=
  fun C d fs σ' B2 H2 S2 h1 h2 h3 h4 hn h5 h6 => h C d fs σ' B2 H2 S2 h1 h2 h3 h4 (f.back hn) (k.trans h5) (f.trans h6)

theorem ExE.step {x : Exn} (h : ExE K mg W B H S σ x e') (f : Fr B H (tot S) B' H' (tot S')) : ExE K mg W B' H' S' σ x e' :=
  fun C d fs B2 H2 S2 h1 h2 h3 h4 hn h6 => h C d fs B2 H2 S2 h1 h2 h3 h4 (f.back hn) (f.trans h6)
theorem ExS.toE {x : Exn} (h : ExS K mg W ks B H S σ x e') : ExE K mg W B H S σ x e' := fun C d fs B2 H2 S2 h1 h2 h3 h4 hn h6 => h C d fs σ B2 H2 S2 h1 h2 h3 h4 hn (Kp.refl _ _) h6
/-- a value that is read: its items are frozen -/
def Rd (K : PySem.W.Frag) (B H : Hp) (v : V) : D → Prop
  | .lst ds => ∃ a xs, v = .ref a ∧ H a = some (.lst xs) ∧ RepL K B xs ds
  | .dct ks ds => ∃ a kv, v = .ref a ∧ H a = some (.dK kv) ∧ kv.map (·.1) = ks ∧ RepL K B (kv.map (·.2)) ds
  | .ins c ns ds => ∃ a C dx fs, v = .ref a ∧ H a = some (.ins C dx fs) ∧ ClsN K c C ∧ fs.map (·.1) = ns ∧ RepL K B (fs.map (·.2)) ds
  | d => Rep K B v d
theorem Rep.rd (h : Rep K B v d) (hx : Ex B H) : Rd K B H v d := by
  cases h with
  | lst h hs => exact ⟨_, _, rfl, hx _ _ h, hs⟩
  | non => exact .non
  | bl b => exact .bl b
  | int i => exact .int i
  | str x => exact .str x
  | tup h hs => exact .tup h hs
  | scr h => exact .scr h
  | opq v => exact .opq v
  | dct h hk hs => exact ⟨_, _, rfl, hx _ _ h, hk, hs⟩
  | ins h hc hk hs => exact ⟨_, _, _, _, rfl, hx _ _ h, hc, hk, hs⟩
theorem RepO.rd (h : RepO K B H v o T) (hx : Ex B H) : Rd K B H v o.d := by
  cases o with
  | fr d => exact h.1.rd hx
  | lst ds =>
    obtain ⟨p, xs, e, hp, hr, hs⟩ := h
    exact ⟨p, xs, e, hp, hr⟩
  | dct ks xs =>
    obtain ⟨p, kv, e, hp, hk, hr, hs⟩ := h
    exact ⟨p, kv, e, hp, hk, hr⟩
  | ins c ns xs =>
    obtain ⟨p, C, dx, fs, e, hp, hc, hk, hr, hs⟩ := h
    exact ⟨p, C, dx, fs, e, hp, hc, hk, hr⟩
  | exn a d x => exact .opq v
  | tr t => exact .opq v
theorem Rd.rep (h : Rd K B H v d) (hx : Ex B H) : Rep K H v d := by
  cases d with
  | lst ds =>
    obtain ⟨a, xs, rfl, h1, h2⟩ := h
    exact .lst h1 (h2.mono hx)
  | dct ks ds =>
    obtain ⟨a, kv, rfl, h1, hk, h2⟩ := h
    exact .dct h1 hk (h2.mono hx)
  | ins c ns ds =>
    obtain ⟨a, C, dx, fs, rfl, h1, hc, hk, h2⟩ := h
    exact .ins h1 hc hk (h2.mono hx)
  | non => exact Rep.mono hx h
  | bl b => exact Rep.mono hx h
  | int i => exact Rep.mono hx h
  | str x => exact Rep.mono hx h
  | tup ds => exact Rep.mono hx h
  | scr ns => exact Rep.mono hx h
  | opq => exact .opq v
theorem Rd.grow (h : Rd K B H v d) (g : Gr B H B' H') : Rd K B' H' v d := by
  cases d with
  | lst ds =>
    obtain ⟨a, xs, rfl, h1, h2⟩ := h
    exact ⟨a, xs, rfl, g.h _ _ h1, h2.mono g.b⟩
  | dct ks ds =>
    obtain ⟨a, kv, rfl, h1, hk, h2⟩ := h
    exact ⟨a, kv, rfl, g.h _ _ h1, hk, h2.mono g.b⟩
  | ins c ns ds =>
    obtain ⟨a, C, dx, fs, rfl, h1, hc, hk, h2⟩ := h
    exact ⟨a, C, dx, fs, rfl, g.h _ _ h1, hc, hk, h2.mono g.b⟩
  | non => exact Rep.mono g.b h
  | bl b => exact Rep.mono g.b h
  | int i => exact Rep.mono g.b h
  | str x => exact Rep.mono g.b h
  | tup ds => exact Rep.mono g.b h
  | scr ns => exact Rep.mono g.b h
  | opq => exact .opq v
inductive RdL (K : PySem.W.Frag) (B H : Hp) : List V → List D → Prop
  | nil : RdL K B H [] []
  | cons {v : V} {vs : List V} {d : D} {ds : List D} : Rd K B H v d → RdL K B H vs ds → RdL K B H (v :: vs) (d :: ds)

/-- the operands, from the left -/
theorem ops_run : ∀ (ps : List P) {B H : Hp} {e : Sl} {S : Nat → Addr → Prop} (Q : List V → Hp → Prop), Rp K B H σ e S →
    Post (ops ps e) (fun ds e' => ∀ vs B' H' S', Rp K B' H' σ e' S' → RdL K B' H' vs ds → Fr B H (tot S) B' H' (tot S') → Q vs H') (fun x e' => ExE K mg W B H S σ x e') → tPs K mg W ps σ H Q
  | [], B, H, e, S, Q, r, h => h [] B H S r .nil (Fr.refl _ _ _)
  | .b i :: ps, B, H, e, S, Q, r, h => by
    unfold ops at h
    cases q : e[i]? with
    | none => rw [q] at h; exact h.elim
    | some u =>
      cases u with
      | none => rw [q] at h; exact h.elim
      | some o0 =>
        rw [q] at h
        obtain ⟨v, hv, _⟩ := r.rep i o0 q
        refine ⟨v, hv, ops_run ps _ r (h.bind.imp (fun ds e' h vs B' H' S' r' rl f => ?_) fun _ _ z => z)⟩
        cases q' : e'[i]? with
        | none => rw [q'] at h; exact h.elim
        | some u' =>
          cases u' with
          | none => rw [q'] at h; exact h.elim
          | some o =>
            rw [q'] at h
            obtain ⟨v', hv', ro⟩ := r'.rep i o q'
            rw [hv] at hv'; cases hv'
            exact h _ B' H' S' r' (.cons (ro.rd r'.ex) rl) f
  | .v f :: ps, B, H, e, S, Q, r, h => by
    unfold ops at h
    refine ⟨B, e, S, r, h.bind.imp (fun o e1 h v B1 H1 S1 T vl f1 => ?_) fun _ _ z => z⟩
    have f1' : Fr B H (tot S) B1 H1 (tot S1) := f1.imp (fun _ z => z) fun _ z => .inr z
    refine ops_run ps _ vl.rp (h.bind.imp (fun ds e' h vs B' H' S' r' rl f2 => ?_) fun x e' z => z.step f1')
    have h' : ∀ vs B' H' S', Rp K B' H' σ e' S' → RdL K B' H' vs (o.d :: ds) → Fr B H (tot S) B' H' (tot S') → Q vs H' := h
    obtain ⟨ro, _, _⟩ := vl.ro.frame vl.own vl.dj f2
    exact h' _ B' H' S' r' (.cons (ro.rd r'.ex) rl) (f1'.trans f2)

/-- what an operation gives: the heap grows, the result may be a new list of one's own -/
def Giv (K : PySem.W.Frag) (B H : Hp) (o : O) (Q : VK) : Prop := ∀ v B' H' T, Gr B H B' H' → RepO K B' H' v o T → (∀ a, T a → H a = none) → Own B' H' T → Q v H'
theorem Giv.fr {Q : VK} (h : Giv K B H (.fr d) Q) (hx : Ex B H) (r : Rep K B v d) : Q v H := h v B H noS (Gr.refl hx) ⟨r, fun _ z => z⟩ (fun _ z => z.elim) own_no
theorem Giv.newL {Q : VK} {xs : List V} {ds : List D} (h : Giv K B H (.lst ds) Q) (hx : Ex B H) (r : RepL K B xs ds) {p : Addr} (hp : H p = none) : Q (.ref p) (upd H p (.lst xs)) := by
  have g := Gr.own hx hp (.lst xs)
  refine h (.ref p) B _ (fun a => a = p) g ⟨p, xs, rfl, upd_same, r, fun a => Iff.rfl⟩ (fun a e => by rw [e]; exact hp) fun a e => ?_
  subst e
  refine ⟨?_, _, upd_same⟩
  cases q : B a with
  | none => rfl
  | some u => have := hx a u q; rw [hp] at this; cases this
theorem Giv.newT {Q : VK} {xs : List V} {ds : List D} (h : Giv K B H (.fr (.tup ds)) Q) (hx : Ex B H) (r : RepL K B xs ds) {p : Addr} (hp : H p = none) : Q (.ref p) (upd H p (.tup xs)) := by
  have g := Gr.new hx hp (.tup xs)
  exact h (.ref p) (upd B p (.tup xs)) _ noS g ⟨.tup (.inl upd_same) (r.mono g.b), fun _ z => z⟩ (fun _ z => z.elim) own_no
/-- a list that is new where it is kept by others at once -/
theorem Giv.newF {Q : VK} {xs : List V} {ds : List D} (h : Giv K B H (.fr (.lst ds)) Q) (hx : Ex B H) (r : RepL K B xs ds) {p : Addr} (hp : H p = none) : Q (.ref p) (upd H p (.lst xs)) := by
  have g := Gr.new hx hp (.lst xs)
  exact h (.ref p) (upd B p (.lst xs)) _ noS g ⟨.lst upd_same (r.mono g.b), fun _ z => z⟩ (fun _ z => z.elim) own_no
/-- an operation's outcome beside the slots -/
theorem Rp.giv {Q : VK} (r : Rp K B H σ e S) (h : ∀ v B' H' S' T, Vl K B' H' σ e S' v o T → Fr B H (tot S) B' H' (fun a => T a ∨ tot S' a) → Q v H') : Giv K B H o Q :=
  fun v B' H' T g ro hn ow => h v B' H' S T ⟨r.grow g, ro, ow, fun a ha ⟨i, hi⟩ => by
    obtain ⟨_, u, hu⟩ := r.own i a hi
    rw [hn a ha] at hu; cases hu⟩ ⟨g.b, fun a o q _ => g.h a o q, fun a z => z.elim (fun z => .inr (hn a z)) .inl, fun a u q => (g.c a u q).elim .inl fun z => .inr (.inr z), fun a u q => ⟨u, g.h a u q⟩⟩

def Snd2 (K : PySem.W.Frag) (r : R2) (g : List D → Option O) : Prop := ∀ (B H : Hp) (x y : V) (a b : D) (o : O), Ex B H → Rd K B H x a → Rd K B H y b → g [a, b] = some o → ∀ Q : VK, Giv K B H o Q → r x y H Q
def Snd1 (K : PySem.W.Frag) (r : V → Hp → VK → Prop) (g : List D → Option O) : Prop := ∀ (B H : Hp) (x : V) (a : D) (o : O), Ex B H → Rd K B H x a → g [a] = some o → ∀ Q : VK, Giv K B H o Q → r x H Q
def SndN (K : PySem.W.Frag) (r : List V → Hp → VK → Prop) (g : List D → Option O) : Prop := ∀ (B H : Hp) (vs : List V) (ds : List D) (o : O), Ex B H → RdL K B H vs ds → g ds = some o → ∀ Q : VK, Giv K B H o Q → r vs H Q

/-- the end of an operation's reading -/
theorem ap_end {g : List D → Option O} {ds : List D} {okP : O → Sl → Prop} {exP : Exn → Sl → Prop} (h : Post ((g ds).map fun o => Ro.ok o e') okP exP) : ∃ o, g ds = some o ∧ okP o e' := by
  cases q : g ds with
  | none => rw [q] at h; exact h.elim
  | some o => rw [q] at h; exact ⟨o, rfl, h⟩
theorem ap2_run {r : R2} {g : List D → Option O} {p q : P} (hs : Snd2 K r g) (Q : VK) (h : tE K mg W (ap g [p, q]) σ H Q) : tOp r (tP K mg W p) (tP K mg W q) σ H Q := by
  obtain ⟨B, e, S, rp, h⟩ := h
  have key := ops_run (K := K) (mg := mg) (W := W) (σ := σ) [p, q] (fun vs H' => ∀ x y, vs = [x, y] → r x y H' Q) rp (h.bind.imp (fun ds e' h vs B' H' S' r' rl f x y ev => ?_) fun _ _ z => z)
  · show tP K mg W p σ H fun x H1 => tP K mg W q σ H1 fun y H2 => r x y H2 Q
    have key' : tP K mg W p σ H fun x H1 => tP K mg W q σ H1 fun y H2 => ∀ x' y', [x, y] = [x', y'] → r x' y' H2 Q := key
    have mono : ∀ (p : P) (σ : St) (H : Hp) (Q Q' : VK), (∀ v H, Q v H → Q' v H) → tP K mg W p σ H Q → tP K mg W p σ H Q' := fun p σ H Q Q' hq t => by
      cases p with
      | b i => obtain ⟨v, e, q⟩ := t; exact ⟨v, e, hq _ _ q⟩
      | v f => obtain ⟨B, e, S, r, t⟩ := t; exact ⟨B, e, S, r, t.imp (fun o e' h v B' H' S' T vl f => hq _ _ (h v B' H' S' T vl f)) fun _ _ z => z⟩
    exact mono _ _ _ _ _ (fun x H1 t => mono _ _ _ _ _ (fun y H2 t => t x y rfl) t) key'
  · subst ev
    obtain ⟨o, ho, h2⟩ := ap_end h
    cases rl with
    | cons h1 rl =>
      cases rl with
      | cons k2 rl =>
        cases rl
        exact hs B' H' x y _ _ o r'.ex h1 k2 ho Q (r'.giv fun v B2 H2 S2 T vl f2 => h2 v B2 H2 S2 T vl (f.trans f2))
theorem ap1_run {r : V → Hp → VK → Prop} {g : List D → Option O} {p : P} (hs : Snd1 K r g) (Q : VK) (h : tE K mg W (ap g [p]) σ H Q) : tP K mg W p σ H fun x H1 => r x H1 Q := by
  obtain ⟨B, e, S, rp, h⟩ := h
  have key := ops_run (K := K) (mg := mg) (W := W) (σ := σ) [p] (fun vs H' => ∀ x, vs = [x] → r x H' Q) rp (h.bind.imp (fun ds e' h vs B' H' S' r' rl f x ev => ?_) fun _ _ z => z)
  · have key' : tP K mg W p σ H fun x H1 => ∀ x', [x] = [x'] → r x' H1 Q := key
    have mono : ∀ (p : P) (σ : St) (H : Hp) (Q Q' : VK), (∀ v H, Q v H → Q' v H) → tP K mg W p σ H Q → tP K mg W p σ H Q' := fun p σ H Q Q' hq t => by
      cases p with
      | b i => obtain ⟨v, e, q⟩ := t; exact ⟨v, e, hq _ _ q⟩
      | v f => obtain ⟨B, e, S, r, t⟩ := t; exact ⟨B, e, S, r, t.imp (fun o e' h v B' H' S' T vl f => hq _ _ (h v B' H' S' T vl f)) fun _ _ z => z⟩
    exact mono _ _ _ _ _ (fun x H1 t => t x rfl) key'
  · subst ev
    obtain ⟨o, ho, h2⟩ := ap_end h
    cases rl with
    | cons h1 rl =>
      cases rl
      exact hs B' H' x _ o r'.ex h1 ho Q (r'.giv fun v B2 H2 S2 T vl f2 => h2 v B2 H2 S2 T vl (f.trans f2))
theorem apN_run {r : List V → Hp → VK → Prop} {g : List D → Option O} {ps : List P} (hs : SndN K r g) (Q : VK) (h : tE K mg W (ap g ps) σ H Q) : tPs K mg W ps σ H fun vs H1 => r vs H1 Q := by
  obtain ⟨B, e, S, rp, h⟩ := h
  refine ops_run (K := K) (mg := mg) (W := W) (σ := σ) ps _ rp (h.bind.imp (fun ds e' h vs B' H' S' r' rl f => ?_) fun _ _ z => z)
  obtain ⟨o, ho, h2⟩ := ap_end h
  exact hs B' H' vs _ o r'.ex rl ho Q (r'.giv fun v B2 H2 S2 T vl f2 => h2 v B2 H2 S2 T vl (f.trans f2))
end

/-! ## 5. Rules: names, constants, operations, tests -/
section
variable {X : Cx} {W : WX} {e a b c : Expr} {pos : Pos} {f g : M O} {p q : P} {op : Operator}
theorem d_var {i : Nat} {x : Str} (hv : PE X (.Name x pos) (tVar i)) : PE X (.Name x pos) (tE X.K X.mg W (eVar i)) := pe_imp hv fun σ H Q h => by
  obtain ⟨B, e, S, r, h⟩ := h
  unfold eVar at h
  cases q : e[i]? with
  | none => rw [q] at h; exact h.elim
  | some u =>
    cases u with
    | none => rw [q] at h; exact h.elim
    | some o =>
      rw [q] at h
      cases o with
      | fr d =>
        obtain ⟨v, hv, ro⟩ := r.rep i _ q
        exact ⟨v, hv, h v B H S noS (.fr r ro.1) ((Fr.refl _ _ _).imp (fun _ z => z) fun a z => z.elim (fun z => z.elim) id)⟩
      | lst ds =>
        obtain ⟨B', v, hv, rv, r', f⟩ := r.freeze q
        exact ⟨v, hv, h v B' H _ noS (.fr r' rv) (f.imp (fun _ z => z) fun a z => z.elim (fun z => z.elim) id)⟩
      | dct ks ds =>
        obtain ⟨B', v, hv, rv, r', f⟩ := r.freeze q
        exact ⟨v, hv, h v B' H _ noS (.fr r' rv) (f.imp (fun _ z => z) fun a z => z.elim (fun z => z.elim) id)⟩
      | ins c ns ds =>
        obtain ⟨B', v, hv, rv, r', f⟩ := r.freeze q
        exact ⟨v, hv, h v B' H _ noS (.fr r' rv) (f.imp (fun _ z => z) fun a z => z.elim (fun z => z.elim) id)⟩
      | exn _ _ _ => exact h.elim
      | tr _ => exact h.elim
theorem d_move {i : Nat} {x : Str} (hv : PE X (.Name x pos) (tVar i)) : PE X (.Name x pos) (tE X.K X.mg W (eMove i)) := pe_imp hv fun σ H Q h => by
  obtain ⟨B, e, S, r, h⟩ := h
  unfold eMove at h
  cases q : e[i]? with
  | none => rw [q] at h; exact h.elim
  | some u =>
    cases u with
    | none => rw [q] at h; exact h.elim
    | some o =>
      rw [q] at h
      obtain ⟨v, hv, ro⟩ := r.rep i _ q
      cases o with
      | fr d => exact ⟨v, hv, h v B H S noS (.fr r ro.1) ((Fr.refl _ _ _).imp (fun _ z => z) fun a z => z.elim (fun z => z.elim) id)⟩
      | lst ds =>
        refine ⟨v, hv, h v B H (fun j => if j = i then noS else S j) (S i) ⟨r.forget i, ro, r.own i, fun a h1 h2 => ?_⟩ ((Fr.refl _ _ _).imp (fun _ z => z) fun a z => z.elim (fun z => ⟨i, z⟩) tot_forget)⟩
        obtain ⟨j, h2⟩ := h2
        by_cases hj : j = i
        · rw [if_pos hj] at h2; exact h2
        · rw [if_neg hj] at h2; exact hj (r.dis j i a h2 h1)
      | dct ds =>
        refine ⟨v, hv, h v B H (fun j => if j = i then noS else S j) (S i) ⟨r.forget i, ro, r.own i, fun a h1 h2 => ?_⟩ ((Fr.refl _ _ _).imp (fun _ z => z) fun a z => z.elim (fun z => ⟨i, z⟩) tot_forget)⟩
        obtain ⟨j, h2⟩ := h2
        by_cases hj : j = i
        · rw [if_pos hj] at h2; exact h2
        · rw [if_neg hj] at h2; exact hj (r.dis j i a h2 h1)
      | ins c ns ds =>
        refine ⟨v, hv, h v B H (fun j => if j = i then noS else S j) (S i) ⟨r.forget i, ro, r.own i, fun a h1 h2 => ?_⟩ ((Fr.refl _ _ _).imp (fun _ z => z) fun a z => z.elim (fun z => ⟨i, z⟩) tot_forget)⟩
        obtain ⟨j, h2⟩ := h2
        by_cases hj : j = i
        · rw [if_pos hj] at h2; exact h2
        · rw [if_neg hj] at h2; exact hj (r.dis j i a h2 h1)
      | exn _ _ _ =>
        refine ⟨v, hv, h v B H (fun j => if j = i then noS else S j) (S i) ⟨r.forget i, ro, r.own i, fun a h1 h2 => ?_⟩ ((Fr.refl _ _ _).imp (fun _ z => z) fun a z => z.elim (fun z => ⟨i, z⟩) tot_forget)⟩
        obtain ⟨j, h2⟩ := h2
        by_cases hj : j = i
        · rw [if_pos hj] at h2; exact h2
        · rw [if_neg hj] at h2; exact hj (r.dis j i a h2 h1)
      | tr t =>
        refine ⟨v, hv, h v B H (fun j => if j = i then noS else S j) (S i) ⟨r.forget i, ro, r.own i, fun a h1 h2 => ?_⟩ ((Fr.refl _ _ _).imp (fun _ z => z) fun a z => z.elim (fun z => ⟨i, z⟩) tot_forget)⟩
        obtain ⟨j, h2⟩ := h2
        by_cases hj : j = i
        · rw [if_pos hj] at h2; exact h2
        · rw [if_neg hj] at h2; exact hj (r.dis j i a h2 h1)
/-- a written value, a constant of the module: v holds d whatever the heap -/
theorem d_c {v : V} {d : D} (hv : PE X e (tC v)) (hr : ∀ B, Rep X.K B v d) : PE X e (tE X.K X.mg W (eC d)) := pe_imp hv fun σ H Q h => by
  obtain ⟨B, e, S, r, h⟩ := h
  exact h v B H S noS (.fr r (hr B)) ((Fr.refl _ _ _).imp (fun _ z => z) fun a z => z.elim (fun z => z.elim) id)
theorem d_int {i j} : PE X (.Constant (.int i) j pos) (tE X.K X.mg W (eC (.int i))) := d_c pe_int fun _ => .int _
theorem d_bl {b j} : PE X (.Constant (.bool b) j pos) (tE X.K X.mg W (eC (.bl b))) := d_c pe_bl fun _ => .bl _
theorem d_non {j} : PE X (.Constant .none j pos) (tE X.K X.mg W (eC .non)) := d_c pe_non fun _ => .non
theorem d_str {x j} : PE X (.Constant (.str x) j pos) (tE X.K X.mg W (eC (.str x))) := d_c pe_str fun _ => .str _
theorem d_fz (h : PE X e (tE X.K X.mg W f)) : PE X e (tE X.K X.mg W (eFz f)) := pe_imp h fun σ H Q h => by
  obtain ⟨B, e, S, r, h⟩ := h
  refine ⟨B, e, S, r, h.bind.imp (fun o e' h v B' H' S' T vl f => ?_) fun _ _ z => z⟩
  obtain ⟨B2, vl2, f2⟩ := vl.freeze
  refine h v B2 H' S' noS vl2 (f.trans ⟨f2.b, fun a o q _ => q, fun a z => z.elim (fun z => z.elim) fun z => .inl (.inr z), fun a u q => (f2.c a u q).elim .inl fun z => .inr (z.elim (fun z => .inl (.inl z)) .inr), fun a o q => ⟨o, q⟩⟩)
/-- operands -/
theorem p_b {i : Nat} {x : Str} (hv : PE X (.Name x pos) (tVar i)) : PE X (.Name x pos) (tP X.K X.mg W (.b i)) := hv
theorem p_v (h : PE X e (tE X.K X.mg W f)) : PE X e (tP X.K X.mg W (.v f)) := h
theorem pa_n : PA X [] (tPs X.K X.mg W []) := pa_nil
theorem pa_c {es : List Expr} {ps : List P} (h : PE X e (tP X.K X.mg W p)) (hr : PA X es (tPs X.K X.mg W ps)) (hs : starEach (e :: es) X.env = (false, eval e X.env) :: starEach es X.env := by rfl) : PA X (e :: es) (tPs X.K X.mg W (p :: ps)) := pa_cons h hr hs

theorem d_op {r : R2} {G : List D → Option O} (ho : OpR X (binaryOp op) r) (hs : Snd2 X.K r G) (ha : PE X a (tP X.K X.mg W p)) (hb : PE X b (tP X.K X.mg W q)) : PE X (.BinOp a op b pos) (tE X.K X.mg W (ap G [p, q])) :=
  pe_imp (pe_op ho ha hb) fun _ _ _ h => ap2_run hs _ h
theorem d_un {r : V → Hp → VK → Prop} {G : List D → Option O} {op : UnaryOp} (ho : UnR X (unaryOp op) r) (hs : Snd1 X.K r G) (ha : PE X a (tP X.K X.mg W p)) : PE X (.UnaryOp op a pos) (tE X.K X.mg W (ap G [p])) :=
  pe_imp (pe_un ho ha) fun _ _ _ h => ap1_run hs _ h
theorem d_cmp {r : R2} {G : List D → Option O} {op : CmpOp} (ho : OpR X (compareOp op) r) (hs : Snd2 X.K r G) (ha : PE X a (tP X.K X.mg W p)) (hb : PE X b (tP X.K X.mg W q)) (hm : behindInMarks op b = false) : PE X (.Compare a [op] [b] pos) (tE X.K X.mg W (ap G [p, q])) :=
  pe_imp (pe_cmpR ho ha hb hm) fun _ _ _ h => ap2_run hs _ h
theorem d_ix {r : R2} {G : List D → Option O} (ho : IxR X r) (hs : Snd2 X.K r G) (ha : PE X a (tP X.K X.mg W p)) (hb : PE X b (tP X.K X.mg W q)) (hp : PlainIx b) : PE X (.Subscript a b pos) (tE X.K X.mg W (ap G [p, q])) :=
  pe_imp (pe_ix ho ha hb hp) fun _ _ _ h => ap2_run hs _ h
theorem d_cb {r : List V → Hp → VK → Prop} {G : List D → Option O} {x : Str} {id : String} {p1 : Pos} {e : Expr} {es : List Expr} {ps : List P} (hc : CallR X (.builtin id) r) (hs : SndN X.K r G) (hg : Gl X x) (hm : X.mg x = none) (hv : bootBuiltins x = some (.builtin id)) (ha : PA X (e :: es) (tPs X.K X.mg W ps)) (hn : x ≠ "__name__" := by decide) (hdb : (x == ("__debug__" : Str)) = false := by decide)
    (he : starEach (e :: es) X.env = (false, eval e X.env) :: starEach es X.env := by rfl) (hpl : (backTo pos (starEach es X.env)).any (·.1) = false := by rfl) : PE X (.Call (.Name x p1) (e :: es) [] pos) (tE X.K X.mg W (ap G ps)) :=
  pe_imp (pe_callB hc hg hm hv ha hn hdb he hpl) fun _ _ _ h => apN_run hs _ h
theorem d_ct {r : List V → Hp → VK → Prop} {G : List D → Option O} {x : Str} {id : String} {p1 : Pos} {e : Expr} {es : List Expr} {ps : List P} (hc : CallR X (.type id) r) (hs : SndN X.K r G) (hg : Gl X x) (hm : X.mg x = none) (hv : bootBuiltins x = some (.type id)) (ha : PA X (e :: es) (tPs X.K X.mg W ps)) (hn : x ≠ "__name__" := by decide) (hdb : (x == ("__debug__" : Str)) = false := by decide)
    (he : starEach (e :: es) X.env = (false, eval e X.env) :: starEach es X.env := by rfl) (hpl : (backTo pos (starEach es X.env)).any (·.1) = false := by rfl) : PE X (.Call (.Name x p1) (e :: es) [] pos) (tE X.K X.mg W (ap G ps)) :=
  pe_imp (pe_callTy hc hg hm hv ha hn hdb he hpl) fun _ _ _ h => apN_run hs _ h

/-! ### tests -/
theorem c_tst (h : PE X e (tE X.K X.mg W f)) (he : ∀ whole, isTrue e X.env whole = (do let v ← whole; standAt e.pos; holding [v] (truthy v)) := by intro _; rfl) : PT X e (tT X.K X.mg W (tst f)) := pt_imp (pt_val h he) fun σ H Q h => by
  obtain ⟨B, e, S, r, h⟩ := h
  refine ⟨B, e, S, r, h.bind.imp (fun o e' h v B' H' S' T vl f => ?_) fun _ _ z => z⟩
  cases o with
  | lst ds => exact h.elim
  | dct _ _ => exact h.elim
  | ins _ _ _ => exact h.elim
  | exn _ _ _ => exact h.elim
  | tr _ => exact h.elim
  | fr d =>
    cases d with
    | bl b =>
      have hr := vl.ro.1
      cases hr
      exact ⟨b, rfl, h B' H' S' vl.rp (f.imp (fun _ z => z) fun _ z => .inr z)⟩
    | _ => exact h.elim
theorem c_cmp {r : R2} {G : List D → Option O} {op : CmpOp} (ho : OpR X (compareOp op) r) (hs : Snd2 X.K r G) (ha : PE X a (tP X.K X.mg W p)) (hb : PE X b (tP X.K X.mg W q)) (hm : behindInMarks op b = false) : PT X (.Compare a [op] [b] pos) (tT X.K X.mg W (tst (ap G [p, q]))) :=
  pt_imp (pt_cmpR ho ha hb hm) fun σ H Q h => by
    obtain ⟨B, e, S, r, h⟩ := h
    refine ap2_run hs (mg := X.mg) (W := W) _ ⟨B, e, S, r, h.bind.imp (fun o e' h v B' H' S' T vl f => ?_) fun _ _ z => z⟩
    cases o with
    | lst ds => exact h.elim
    | dct _ _ => exact h.elim
    | ins _ _ _ => exact h.elim
    | exn _ _ _ => exact h.elim
    | tr _ => exact h.elim
    | fr d =>
      cases d with
      | bl b =>
        have hr := vl.ro.1
        cases hr
        exact ⟨b, rfl, h B' H' S' vl.rp (f.imp (fun _ z => z) fun _ z => .inr z)⟩
      | _ => exact h.elim
theorem c_not {t : M Bool} (h : PT X e (tT X.K X.mg W t)) : PT X (.UnaryOp .Not e pos) (tT X.K X.mg W (cNot t)) := pt_imp (pt_not h) fun σ H Q h => by
  obtain ⟨B, e, S, r, h⟩ := h
  exact ⟨B, e, S, r, h.bind.imp (fun b e' h B' H' S' r' f => h B' H' S' r' f) fun _ _ z => z⟩
theorem w_one {t : M Bool} {bop : BoolOp} (h : PT X e (tT X.K X.mg W t)) : PW X (.BoolOp bop [e] pos) (tT X.K X.mg W t) := by
  cases bop with
  | And => exact pw_and1 h
  | Or => exact pw_or1 h
theorem w_and {t u : M Bool} {rest : List Expr} (ha : PT X a (tT X.K X.mg W t)) (hb : PW X (.BoolOp .And (b :: rest) pos) (tT X.K X.mg W u)) : PW X (.BoolOp .And (a :: b :: rest) pos) (tT X.K X.mg W (cAnd t u)) := pw_imp (pw_and ha hb) fun σ H Q h => by
  obtain ⟨B, e, S, r, h⟩ := h
  refine ⟨B, e, S, r, h.bind.imp (fun b e' h B' H' S' r' f => ?_) fun _ _ z => z⟩
  cases b with
  | true => exact iteT ⟨B', e', S', r', (show Post (u e') _ _ from h).imp (fun b e2 h B2 H2 S2 r2 f2 => h B2 H2 S2 r2 (f.trans f2)) fun _ _ z => z.step f⟩
  | false => exact iteF (h B' H' S' r' f)
theorem w_or {t u : M Bool} {rest : List Expr} (ha : PT X a (tT X.K X.mg W t)) (hb : PW X (.BoolOp .Or (b :: rest) pos) (tT X.K X.mg W u)) : PW X (.BoolOp .Or (a :: b :: rest) pos) (tT X.K X.mg W (cOr t u)) := pw_imp (pw_or ha hb) fun σ H Q h => by
  obtain ⟨B, e, S, r, h⟩ := h
  refine ⟨B, e, S, r, h.bind.imp (fun b e' h B' H' S' r' f => ?_) fun _ _ z => z⟩
  cases b with
  | false => exact iteF ⟨B', e', S', r', (show Post (u e') _ _ from h).imp (fun b e2 h B2 H2 S2 r2 f2 => h B2 H2 S2 r2 (f.trans f2)) fun _ _ z => z.step f⟩
  | true => exact iteT (h B' H' S' r' f)
theorem c_w {t : M Bool} (h : PW X e (tT X.K X.mg W t)) : PT X e (tT X.K X.mg W t) := h.pt

/-! ### and, or, not as values -/
theorem d_one {bop : BoolOp} (h : PE X e (tE X.K X.mg W f)) : PE X (.BoolOp bop [e] pos) (tE X.K X.mg W f) := pe_one h
theorem d_and {rest : List Expr} (ha : PE X a (tE X.K X.mg W f)) (hb : PE X (.BoolOp .And (b :: rest) pos) (tE X.K X.mg W g)) : PE X (.BoolOp .And (a :: b :: rest) pos) (tE X.K X.mg W (eAnd f g)) := pe_imp (pe_and ha hb) fun σ H Q h => by
  obtain ⟨B, e, S, r, h⟩ := h
  refine ⟨B, e, S, r, h.bind.imp (fun o e' h v B' H' S' T vl f => ?_) fun _ _ z => z⟩
  have f' := f.imp (fun _ z => z) (fun a (z : tot S' a) => .inr z)
  cases o with
  | lst ds => exact h.elim
  | dct _ _ => exact h.elim
  | ins _ _ _ => exact h.elim
  | exn _ _ _ => exact h.elim
  | tr _ => exact h.elim
  | fr d =>
    cases d with
    | bl b =>
      have hr := vl.ro.1
      cases hr
      cases b with
      | true => exact ⟨true, rfl, iteT ⟨B', e', S', vl.rp, (show Post (g e') _ _ from h).imp (fun o e2 h v B2 H2 S2 T2 vl2 f2 => h v B2 H2 S2 T2 vl2 (f'.trans f2)) fun _ _ z => z.step f'⟩⟩
      | false => exact ⟨false, rfl, iteF (h _ B' H' S' noS (.fr vl.rp (.bl false)) (f.imp (fun _ z => z) fun a z => z.elim (fun z => z.elim) .inr))⟩
    | _ => exact h.elim
theorem d_or {rest : List Expr} (ha : PE X a (tE X.K X.mg W f)) (hb : PE X (.BoolOp .Or (b :: rest) pos) (tE X.K X.mg W g)) : PE X (.BoolOp .Or (a :: b :: rest) pos) (tE X.K X.mg W (eOr f g)) := pe_imp (pe_or ha hb) fun σ H Q h => by
  obtain ⟨B, e, S, r, h⟩ := h
  refine ⟨B, e, S, r, h.bind.imp (fun o e' h v B' H' S' T vl f => ?_) fun _ _ z => z⟩
  have f' := f.imp (fun _ z => z) (fun a (z : tot S' a) => .inr z)
  cases o with
  | lst ds => exact h.elim
  | dct _ _ => exact h.elim
  | ins _ _ _ => exact h.elim
  | exn _ _ _ => exact h.elim
  | tr _ => exact h.elim
  | fr d =>
    cases d with
    | bl b =>
      have hr := vl.ro.1
      cases hr
      cases b with
      | false => exact ⟨false, rfl, iteF ⟨B', e', S', vl.rp, (show Post (g e') _ _ from h).imp (fun o e2 h v B2 H2 S2 T2 vl2 f2 => h v B2 H2 S2 T2 vl2 (f'.trans f2)) fun _ _ z => z.step f'⟩⟩
      | true => exact ⟨true, rfl, iteT (h _ B' H' S' noS (.fr vl.rp (.bl true)) (f.imp (fun _ z => z) fun a z => z.elim (fun z => z.elim) .inr))⟩
    | _ => exact h.elim
theorem d_not (ha : PE X a (tE X.K X.mg W f)) : PE X (.UnaryOp .Not a pos) (tE X.K X.mg W (eNot f)) := pe_imp (pe_not ha) fun σ H Q h => by
  obtain ⟨B, e, S, r, h⟩ := h
  refine ⟨B, e, S, r, h.bind.imp (fun o e' h v B' H' S' T vl f => ?_) fun _ _ z => z⟩
  cases o with
  | lst ds => exact h.elim
  | dct _ _ => exact h.elim
  | ins _ _ _ => exact h.elim
  | exn _ _ _ => exact h.elim
  | tr _ => exact h.elim
  | fr d =>
    cases d with
    | bl b =>
      have hr := vl.ro.1
      cases hr
      exact ⟨b, rfl, h _ B' H' S' noS (.fr vl.rp (.bl _)) (f.imp (fun _ z => z) fun a z => z.elim (fun z => z.elim) .inr)⟩
    | _ => exact h.elim
theorem d_if {t : M Bool} (hc : PT X c (tT X.K X.mg W t)) (ha : PE X a (tE X.K X.mg W f)) (hb : PE X b (tE X.K X.mg W g)) : PE X (.IfExp c a b pos) (tE X.K X.mg W (eIf t f g)) := pe_imp (pe_ifExp hc ha hb) fun σ H Q h => by
  obtain ⟨B, e, S, r, h⟩ := h
  refine ⟨B, e, S, r, h.bind.imp (fun b e' h B' H' S' r' f' => ?_) fun _ _ z => z⟩
  cases b with
  | true => exact iteT ⟨B', e', S', r', (show Post (f e') _ _ from h).imp (fun o e2 h v B2 H2 S2 T2 vl2 f2 => h v B2 H2 S2 T2 vl2 (f'.trans f2)) fun _ _ z => z.step f'⟩
  | false => exact iteF ⟨B', e', S', r', (show Post (g e') _ _ from h).imp (fun o e2 h v B2 H2 S2 T2 vl2 f2 => h v B2 H2 S2 T2 vl2 (f'.trans f2)) fun _ _ z => z.step f'⟩
end
end Dn

namespace Dn
open PySem L2
open Evl (Ex)

/-! ## 6. Statements -/
section
variable {K : PySem.W.Frag} {mg : Str → Option Value} {W : WX} {B B' H H' : Hp} {v x y : V} {o : O} {d : D} {σ σ' : St} {e e' : Sl} {S S' : Nat → Addr → Prop} {T T' : Addr → Prop} {ks : List Nat}
/-- what is wanted behind a statement, from (B, H, S, σ) on -/
def Nd (K : PySem.W.Frag) (D : Ends) (ks : List Nat) (B H : Hp) (S : Nat → Addr → Prop) (σ : St) : Fl → Sl → Prop := fun fl e' => match fl with
    | .next => ∀ σ' B' H' S', Rp K B' H' σ' e' S' → Kp ks σ σ' → Fr B H (tot S) B' H' (tot S') → D.nx σ' H'
    | .brk => ∀ σ' B' H' S', Rp K B' H' σ' e' S' → Kp ks σ σ' → Fr B H (tot S) B' H' (tot S') → D.bk σ' H'
    | .cnt => ∀ σ' B' H' S', Rp K B' H' σ' e' S' → Kp ks σ σ' → Fr B H (tot S) B' H' (tot S') → D.ct σ' H'
    | .ret o => ∀ v σ' B' H' S' T, Vl K B' H' σ' e' S' v o T → Kp ks σ σ' → Fr B H (tot S) B' H' (fun a => T a ∨ tot S' a) → D.rt v H'
theorem tS_iff {g : M Fl} {D : Ends} : tS K mg W ks g D σ H ↔ ∃ B e S, Rp K B H σ e S ∧ Post (g e) (Nd K D ks B H S σ) (ExS K mg W ks B H S σ) := Iff.rfl
theorem Nd.step {D : Ends} {fl : Fl} (h : Nd K D ks B H S σ fl e') (k : Kp ks σ σ') (f : Fr B H (tot S) B' H' (tot S')) : Nd K D ks B' H' S' σ' fl e' := by
  cases fl with
  | next => exact fun σ2 B2 H2 S2 r k2 f2 => h σ2 B2 H2 S2 r (k.trans k2) (f.trans f2)
  | brk => exact fun σ2 B2 H2 S2 r k2 f2 => h σ2 B2 H2 S2 r (k.trans k2) (f.trans f2)
  | cnt => exact fun σ2 B2 H2 S2 r k2 f2 => h σ2 B2 H2 S2 r (k.trans k2) (f.trans f2)
  | ret o => exact fun v σ2 B2 H2 S2 T vl k2 f2 => h v σ2 B2 H2 S2 T vl (k.trans k2) (f.trans f2)
theorem Fr.weak {H1 B1 : Hp} {T : Addr → Prop} (f : Fr B H (tot S) B1 H1 (fun a => T a ∨ tot S' a)) : Fr B H (tot S) B1 H1 (tot S') := f.imp (fun _ z => z) fun _ z => .inr z
end

section
variable {X : Cx} {W : WX} {ks : List Nat} {st : Stmt} {rest : List Stmt} {g g1 g2 : M Fl} {f : M O} {e : Expr} {pos : Pos}
theorem ss_nil : PSs X [] (tS X.K X.mg W ks sNext) := pss_imp pss_nil fun D σ H h => by
  obtain ⟨B, e, S, r, h⟩ := h
  exact h σ B H S r (Kp.refl _ _) (Fr.refl _ _ _)
theorem ss_one (h : PS X st (tS X.K X.mg W ks g)) : PSs X [st] (tS X.K X.mg W ks g) := pss_one h
theorem ss_cons (h1 : PS X st (tS X.K X.mg W ks g1)) (h2 : PSs X rest (tS X.K X.mg W ks g2)) : PSs X (st :: rest) (tS X.K X.mg W ks (sSeq g1 g2)) := pss_imp (pss_cons h1 h2) fun D σ H h => by
  obtain ⟨B, e, S, r, h⟩ := h
  refine ⟨B, e, S, r, h.bind.imp (fun fl e' h => ?_) fun _ _ z => z⟩
  cases fl with
  | next => exact fun σ' B' H' S' r' k f => ⟨B', e', S', r', (show Post (g2 e') (Nd X.K D ks B H S σ) _ from h).imp (fun fl e2 h => h.step k f) fun x e2 z => ExS.step z k f⟩
  | brk => exact h
  | cnt => exact h
  | ret o => exact h
theorem s_pass : PS X (.Pass pos) (tS X.K X.mg W ks sNext) := ps_imp ps_pass fun D σ H h => by
  obtain ⟨B, e, S, r, h⟩ := h
  exact h σ B H S r (Kp.refl _ _) (Fr.refl _ _ _)
theorem s_doc {x j pos'} : PS X (.Expr (.Constant (.str x) j pos) pos') (tS X.K X.mg W ks sNext) := ps_imp ps_doc fun D σ H h => by
  obtain ⟨B, e, S, r, h⟩ := h
  exact h σ B H S r (Kp.refl _ _) (Fr.refl _ _ _)
theorem s_brk : PS X (.Break pos) (tS X.K X.mg W ks sBrk) := ps_imp ps_break fun D σ H h => by
  obtain ⟨B, e, S, r, h⟩ := h
  exact h σ B H S r (Kp.refl _ _) (Fr.refl _ _ _)
theorem s_cnt : PS X (.Continue pos) (tS X.K X.mg W ks sCnt) := ps_imp ps_continue fun D σ H h => by
  obtain ⟨B, e, S, r, h⟩ := h
  exact h σ B H S r (Kp.refl _ _) (Fr.refl _ _ _)
theorem s_ret (h : PE X e (tE X.K X.mg W f)) : PS X (.Return (some e) pos) (tS X.K X.mg W ks (sRet f)) := ps_imp (ps_ret h) fun D σ H h => by
  obtain ⟨B, e, S, r, h⟩ := h
  exact ⟨B, e, S, r, h.bind.imp (fun o e' h v B' H' S' T vl f => h v σ B' H' S' T vl (Kp.refl _ _) f) fun _ _ z => ExS.toE z⟩
theorem s_retN : PS X (.Return none pos) (tS X.K X.mg W ks (sRet (eC .non))) := ps_imp ps_retN fun D σ H h => by
  obtain ⟨B, e, S, r, h⟩ := h
  exact h .non σ B H S noS (.fr r .non) (Kp.refl _ _) ((Fr.refl _ _ _).imp (fun _ z => z) fun a z => z.elim (fun z => z.elim) id)
theorem s_drop (h : PE X e (tE X.K X.mg W f)) (hs : swapsWith e none pos.line X.env = pure false := by rfl) : PS X (.Expr e pos) (tS X.K X.mg W ks (sDrop f)) := ps_imp (ps_expr h hs) fun D σ H h => by
  obtain ⟨B, e, S, r, h⟩ := h
  exact ⟨B, e, S, r, h.bind.imp (fun o e' h v B' H' S' T vl f => h σ B' H' S' vl.rp (Kp.refl _ _) f.weak) fun _ _ z => ExS.toE z⟩
theorem s_if {c : Expr} {a b : List Stmt} {t : M Bool} (hc : PT X c (tT X.K X.mg W t)) (ha : PSs X a (tS X.K X.mg W ks g1)) (hb : PSs X b (tS X.K X.mg W ks g2)) : PS X (.If c a b pos) (tS X.K X.mg W ks (sIf t g1 g2)) := ps_imp (ps_if hc ha hb) fun D σ H h => by
  obtain ⟨B, e, S, r, h⟩ := h
  refine ⟨B, e, S, r, h.bind.imp (fun b e' h B' H' S' r' f => ?_) fun _ _ z => ExS.toE z⟩
  cases b with
  | true => exact iteT ⟨B', e', S', r', (show Post (g1 e') (Nd X.K D ks B H S σ) _ from h).imp (fun fl e2 h => h.step (Kp.refl _ _) f) fun x e2 z => ExS.step z (Kp.refl _ _) f⟩
  | false => exact iteF ⟨B', e', S', r', (show Post (g2 e') (Nd X.K D ks B H S σ) _ from h).imp (fun fl e2 h => h.step (Kp.refl _ _) f) fun x e2 z => ExS.step z (Kp.refl _ _) f⟩
theorem Fr.sets {B H B' H' : Hp} {S : Nat → Addr → Prop} {S' : Nat → Addr → Prop} {T : Addr → Prop} {i n : Nat} (f : Fr B H (tot S) B' H' (fun a => T a ∨ tot S' a)) : Fr B H (tot S) B' H' (tot (fun j => if j = i then (if i < n then T else noS) else S' j)) :=
  f.imp (fun _ z => z) fun _ z => tot_set z
theorem s_set {i : Nat} {x : Str} {pos' : Pos} (hN : X.N.Nodup) (hi : X.N[i]? = some x) (hx : Loc X.env.scope x) (h : PE X e (tE X.K X.mg W f)) (hk : i ∉ ks := by decide) (hs : swapsWith e (some (.Name x pos')) pos.line X.env = pure false := by rfl) (hf : X.fn x = true ∨ X.env.scope.names.lookup x = some .local := by first | exact .inl rfl | exact .inr rfl | assumption) :
    PS X (.Assign [.Name x pos'] e pos) (tS X.K X.mg W ks (sSet i f)) := ps_imp (ps_set hN hi hx h hs hf) fun D σ H h => by
  obtain ⟨B, e, S, r, h⟩ := h
  refine ⟨B, e, S, r, h.bind.imp (fun o e' h v B' H' S' T vl f => ?_) fun _ _ z => ExS.toE z⟩
  exact h _ B' H' _ (vl.set i) (Kp.set hk) f.sets

/-! ## 7. Displays, slices -/
/-- the items of a display, each kept from now on -/
def tIs (K : PySem.W.Frag) (mg : Str → Option Value) (W : WX) : List (M O) → TA
  | [] => tNil
  | f :: fs => tCons (tE K mg W f) (tIs K mg W fs)
theorem items_run {K : PySem.W.Frag} {mg : Str → Option Value} {W : WX} {σ : St} : ∀ (fs : List (M O)) {B H : Hp} {e : Sl} {S : Nat → Addr → Prop} (Q : List V → Hp → Prop), Rp K B H σ e S →
    Post (items fs e) (fun ds e' => ∀ vs B' H' S', Rp K B' H' σ e' S' → RepL K B' vs ds → Fr B H (tot S) B' H' (tot S') → Q vs H') (fun x e' => ExE K mg W B H S σ x e') → tIs K mg W fs σ H Q
  | [], B, H, e, S, Q, r, h => h [] B H S r .nil (Fr.refl _ _ _)
  | f :: fs, B, H, e, S, Q, r, h => by
    unfold items at h
    refine ⟨B, e, S, r, h.bind.imp (fun o e1 h v B1 H1 S1 T vl f1 => ?_) fun _ _ z => z⟩
    obtain ⟨B2, vl2, f2⟩ := vl.freeze
    have f3 : Fr B H (tot S) B2 H1 (tot S1) := f1.trans ⟨f2.b, fun a o q _ => q, fun a z => .inl (.inr z), fun a u q => (f2.c a u q).elim .inl fun z => .inr (z.elim (fun z => .inl (.inl z)) .inr), fun a o q => ⟨o, q⟩⟩
    refine items_run fs _ vl2.rp (h.bind.imp (fun ds e' h vs B' H' S' r' rl f4 => ?_) fun x e' z => z.step f3)
    have h' : ∀ vs B' H' S', Rp K B' H' σ e' S' → RepL K B' vs (o.d :: ds) → Fr B H (tot S) B' H' (tot S') → Q vs H' := h
    exact h' _ B' H' S' r' (.cons (vl2.ro.1.mono f4.b) rl) (f3.trans f4)
theorem is_n : PA X [] (tIs X.K X.mg W []) := pa_nil
theorem is_c {es : List Expr} {fs : List (M O)} (h : PE X e (tE X.K X.mg W f)) (hr : PA X es (tIs X.K X.mg W fs)) (hs : starEach (e :: es) X.env = (false, eval e X.env) :: starEach es X.env := by rfl) : PA X (e :: es) (tIs X.K X.mg W (f :: fs)) := pa_cons h hr hs
theorem small_items : ∀ (fs : List (M O)) (e : Sl) (ds : List D) (e' : Sl), items fs e = some (.ok ds e') → ds.length = fs.length
  | [], e, ds, e', h => by cases h; rfl
  | f :: fs, e, ds, e', h => by
    unfold items M.bind at h
    cases q : f e with
    | none => rw [q] at h; cases h
    | some r =>
      cases r with
      | ex x e1 => rw [q] at h; cases h
      | ok o e1 =>
        rw [q] at h
        dsimp only [M.bind] at h
        cases q2 : items fs e1 with
        | none => rw [q2] at h; cases h
        | some r2 =>
          cases r2 with
          | ex x e2 => rw [q2] at h; cases h
          | ok ds2 e3 =>
            rw [q2] at h
            have q3 := small_items fs e1 ds2 e3 q2
            cases h
            rw [List.length_cons, List.length_cons, q3]
theorem RepL.len_of {K : PySem.W.Frag} {B : Hp} {vs : List V} {ds : List D} {n : Nat} (h : RepL K B vs ds) (e : ds.length = n) (hn : n ≤ 1000) : vs.length ≤ sizeLine := by
  rw [h.length, e]
  exact Nat.le_trans hn (by decide)
theorem post_len {fs : List (M O)} {e : Sl} {ok : List D → Sl → Prop} {ex : Exn → Sl → Prop} (h : Post (items fs e) ok ex) : Post (items fs e) (fun ds e' => ok ds e' ∧ ds.length = fs.length) ex := by
  cases q : items fs e with
  | none => rw [q] at h; exact h
  | some r =>
    rw [q] at h
    cases r with
    | ex x e1 => exact h
    | ok ds e1 => exact ⟨h, small_items fs e ds e1 q⟩
theorem d_tup {es : List Expr} {fs : List (M O)} {x1} (h : PA X es (tIs X.K X.mg W fs)) (hn : fs.length ≤ 1000 := by decide) : PE X (.Tuple es x1 pos) (tE X.K X.mg W (eTup fs)) := pe_imp (pe_tup h) fun σ H Q h => by
  obtain ⟨B, e, S, r, h⟩ := h
  refine items_run fs _ r ((post_len h.bind).imp (fun ds e' h vs B' H' S' r' rl f => ⟨rl.len_of h.2 hn, fun p hp => ?_⟩) fun _ _ z => z)
  have h' : ∀ v B' H' S' T, Vl X.K B' H' σ e' S' v (.fr (.tup ds)) T → Fr B H (tot S) B' H' (fun a => T a ∨ tot S' a) → Q v H' := h.1
  exact (r'.giv fun v B2 H2 S2 T vl f2 => h' v B2 H2 S2 T vl (f.trans f2)).newT r'.ex rl hp
theorem d_lst {es : List Expr} {fs : List (M O)} (h : PA X es (tIs X.K X.mg W fs)) (hn : fs.length ≤ 1000 := by decide) : PE X (.List es pos) (tE X.K X.mg W (eLst fs)) := pe_imp (pe_lst h) fun σ H Q h => by
  obtain ⟨B, e, S, r, h⟩ := h
  refine items_run fs _ r ((post_len h.bind).imp (fun ds e' h vs B' H' S' r' rl f => ⟨rl.len_of h.2 hn, fun p hp => ?_⟩) fun _ _ z => z)
  have h' : ∀ v B' H' S' T, Vl X.K B' H' σ e' S' v (.lst ds) T → Fr B H (tot S) B' H' (fun a => T a ∨ tot S' a) → Q v H' := h.1
  exact (r'.giv fun v B2 H2 S2 T vl f2 => h' v B2 H2 S2 T vl (f.trans f2)).newL r'.ex rl hp
end

/-! ## 8. What is walked -/
/-- frozen data walked: item by item, new objects at most -/
def WalkD (K : PySem.W.Frag) (J : It) (B : Hp) (ds : List D) : Prop := ∃ (G : Hp → Prop) (Y : Nat → Hp → V → Hp → Prop), Walk J ds.length G Y ∧ (∀ H, Ex B H → G H) ∧
  ∀ i H x H' B1, i < ds.length → Ex B B1 → Ex B1 H → Y i H x H' → ∃ B2 d, Gr B1 H B2 H' ∧ ds[i]? = some d ∧ Rep K B2 x d
def tSrc (K : PySem.W.Frag) (mg : Str → Option Value) (W : WX) (src : M (List D)) : TI := fun σ H R => ∃ B e S, Rp K B H σ e S ∧ Post (src e)
  (fun ds e' => ∀ J B' H' S', Rp K B' H' σ e' S' → Fr B H (tot S) B' H' (tot S') → WalkD K J B' ds → R J H') (fun x e' => ExE K mg W B H S σ x e')
theorem pi_imp {X : Cx} {tg e : Expr} {t t' : TI} (h : PI X tg e t) (i : ∀ σ H R, t' σ H R → t σ H R) : PI X tg e t' := ⟨fun pins s σ H R I q => h.run pins s σ H R I (i σ H R q)⟩
/-- a target: names, or a tuple of names -/
inductive Tg where
  | n (i : Nat) | t (is : List Nat)
def setAll : List Nat → List D → Sl → Option Sl
  | [], [], e => some e
  | i :: is, d :: ds, e => setAll is ds (e.set i (some (.fr d)))
  | _, _, _ => none
def Tg.go : Tg → D → Sl → Option Sl
  | .n i, d, e => some (e.set i (some (.fr d)))
  | .t is, .tup ds, e => setAll is ds e
  | _, _, _ => none
def Tg.ix : Tg → List Nat
  | .n i => [i]
  | .t is => is
def tTgs : List Nat → TGs
  | [] => gNil
  | i :: is => gCons (gName i) (tTgs is)
def tTg (K : PySem.W.Frag) : Tg → TG
  | .n i => gName i
  | .t is => gTup K is.length (tTgs is)
theorem setAll_run {K : PySem.W.Frag} {B H : Hp} {ks : List Nat} : ∀ (is : List Nat) (vs : List V) (ds : List D) {σ : St} {e e' : Sl} {S : Nat → Addr → Prop} (Q : St → Hp → Prop), Rp K B H σ e S → RepL K B vs ds → setAll is ds e = some e' → (∀ i ∈ is, i ∉ ks) →
    (∀ σ' S', Rp K B H σ' e' S' → Kp ks σ σ' → (∀ a, tot S' a → tot S a) → (∀ j, j ∉ is → σ'[j]? = σ[j]?) → Q σ' H) → tTgs is vs σ H Q
  | [], [], [], σ, e, e', S, Q, r, rl, h, hk, q => by
    cases h
    exact ⟨rfl, q σ S r (Kp.refl _ _) (fun _ z => z) fun _ _ => rfl⟩
  | [], _ :: _, _ :: _, _, _, _, _, _, _, _, h, _, _ => by cases h
  | [], [], _ :: _, _, _, _, _, _, _, rl, h, _, _ => by cases rl
  | [], _ :: _, [], _, _, _, _, _, _, rl, h, _, _ => by cases rl
  | _ :: _, _, [], _, _, _, _, _, _, _, h, _, _ => by cases h
  | _ :: _, [], _ :: _, _, _, _, _, _, _, rl, _, _, _ => by cases rl
  | i :: is, v :: vs, d :: ds, σ, e, e', S, Q, r, .cons hv rl, h, hk, q => by
    refine ⟨v, vs, rfl, setAll_run is vs ds (K := K) (B := B) (ks := ks) Q ((Vl.fr r hv).set i) rl h (fun j hj => hk j (List.mem_cons_of_mem _ hj)) fun σ' S' r' k' t' n' => ?_⟩
    refine q σ' S' r' ((Kp.set (hk i List.mem_cons_self)).trans k') (fun a z => ?_) fun j hj => ?_
    · exact (tot_set (t' a z)).elim (fun z => z.elim) id
    · rw [List.mem_cons, not_or] at hj
      rw [n' j hj.2, List.getElem?_set_ne (Ne.symm hj.1)]
theorem setAll_len : ∀ (is : List Nat) (ds : List D) {e e' : Sl}, setAll is ds e = some e' → ds.length = is.length
  | [], [], _, _, _ => rfl
  | [], _ :: _, _, _, h => by cases h
  | _ :: _, [], _, _, h => by cases h
  | i :: is, d :: ds, e, e', h => by
    rw [List.length_cons, List.length_cons, setAll_len is ds (e := e.set i (some (.fr d))) h]
theorem tg_run {K : PySem.W.Frag} {B H : Hp} {ks : List Nat} {tg : Tg} {v : V} {d : D} {σ : St} {e e' : Sl} {S : Nat → Addr → Prop} {Q : St → Hp → Prop} (r : Rp K B H σ e S) (hv : Rep K B v d) (h : tg.go d e = some e') (hk : ∀ i ∈ tg.ix, i ∉ ks)
    (q : ∀ σ' S', Rp K B H σ' e' S' → Kp ks σ σ' → (∀ a, tot S' a → tot S a) → (∀ j, j ∉ tg.ix → σ'[j]? = σ[j]?) → Q σ' H) : tTg K tg v σ H Q := by
  cases tg with
  | n i =>
    cases h
    refine q _ _ ((Vl.fr r hv).set i) (Kp.set (hk i List.mem_cons_self)) (fun a z => (tot_set z).elim (fun z => z.elim) id) fun j hj => ?_
    rw [List.getElem?_set_ne]
    intro z
    exact hj (by rw [z]; exact List.mem_cons_self)
  | t is =>
    cases d with
    | tup ds =>
      have h' : setAll is ds e = some e' := h
      cases hv with
      | tup hq rl =>
        have hl : ds.length = is.length := by
          exact setAll_len is ds h'
        exact ⟨_, _, rfl, Evl.ex_t r.ex hq.sq, rl.length.trans hl, setAll_run is _ ds Q r rl h' hk q⟩
    | _ => cases h

def forL (tg : Tg) (body : M Fl) : List D → M Fl
  | [] => M.pure .next
  | d :: ds => fun e => match tg.go d e with
    | none => none
    | some e1 => match body e1 with
      | none => none
      | some (.ex x e') => some (.ex x e')
      | some (.ok fl e') => match fl with
        | .next => forL tg body ds e'
        | .cnt => forL tg body ds e'
        | .brk => some (.ok .next e')
        | .ret o => some (.ok (.ret o) e')
def sFor (src : M (List D)) (tg : Tg) (body : M Fl) : M Fl := src.bind fun ds => forL tg body ds
def whL (c : M Bool) (body : M Fl) : Nat → M Fl
  | 0 => M.stuck
  | n + 1 => c.bind fun b => if b then (fun e => match body e with
      | none => none
      | some (.ex x e') => some (.ex x e')
      | some (.ok fl e') => match fl with
        | .next => whL c body n e'
        | .cnt => whL c body n e'
        | .brk => some (.ok .next e')
        | .ret o => some (.ok (.ret o) e')) else M.pure .next

section
variable {X : Cx} {W : WX} {ks : List Nat} {g : M Fl} {pos : Pos} {tg : Tg} {src : M (List D)}
theorem s_for {iter target : Expr} {body : List Stmt} (hp : PassesOwn (model X.prog X.w) X.A X.env X.xe) (hc : X.calm = true) (hi : PI X target iter (tSrc X.K X.mg W src)) (hg : PG X target (tTg X.K tg)) (hb : PSs X body (tS X.K X.mg W ks g)) (hk : ∀ i ∈ tg.ix, i ∉ ks)
    (hs : ∀ x, foldedSetIterable iter X.env x = pure x := by intro _; rfl) : PS X (.For target iter body [] pos) (tS X.K X.mg W ks (sFor src tg g)) := ps_imp (ps_for hp hc hi hg hb hs) fun D σ H h => by
  obtain ⟨B, e, S, r, h⟩ := h
  refine ⟨B, e, S, r, h.bind.imp (fun ds e1 h J B1 H1 S1 r1 f1 wd => ?_) fun _ _ z => ExS.toE z⟩
  obtain ⟨G, Y, wk, hG, hY⟩ := wd
  have h0 : Post (forL tg g ds e1) (Nd X.K D ks B H S σ) (ExS X.K X.mg W ks B H S σ) := h
  refine for_it wk (fun i σ' H' => ∃ B' e' S', Rp X.K B' H' σ' e' S' ∧ Kp ks σ σ' ∧ Fr B H (tot S) B' H' (tot S') ∧ Ex B1 B' ∧ Post (forL tg g (ds.drop i) e') (Nd X.K D ks B H S σ) (ExS X.K X.mg W ks B H S σ)) ⟨B1, e1, S1, r1, Kp.refl _ _, f1, Ex.refl _, h0⟩ (fun i σ' H' hi ⟨B', e', S', r', k', f', x', h'⟩ => hG _ (x'.trans r'.ex)) (fun i x σ' H' H2 hi ⟨B', e', S', r', k', f', x', h'⟩ hy => ?_) fun σ' H' ⟨B', e', S', r', k', f', x', h'⟩ => ?_
  · obtain ⟨B2, d, gr, hd, rv⟩ := hY i H' x H2 B' hi x' r'.ex hy
    have ed : ds.drop i = d :: ds.drop (i + 1) := by
      rw [List.drop_eq_getElem_cons hi]
      rw [List.getElem?_eq_getElem hi] at hd
      cases hd
      rfl
    rw [ed] at h'
    unfold forL at h'
    cases q : tg.go d e' with
    | none => rw [q] at h'; exact h'.elim
    | some e2 =>
      rw [q] at h'
      have r2 := r'.grow gr
      refine tg_run (ks := ks) r2 rv q hk fun σ3 S3 r3 k3 t3 _ => ?_
      have f3 : Fr B H (tot S) B2 H2 (tot S3) := (f'.trans (gr.fr (tot S'))).imp (fun _ z => z) t3
      refine ⟨B2, e2, S3, r3, ?_⟩
      cases qb : g e2 with
      | none => simp only [qb] at h'; exact h'.elim
      | some rr =>
        cases rr with
        | ex x2 e4 =>
          simp only [qb] at h'
          exact ExS.step h' (k'.trans k3) f3
        | ok fl e4 =>
          simp only [qb] at h'
          cases fl with
          | next => exact fun σ4 B4 H4 S4 r4 k4 f4 => ⟨B4, e4, S4, r4, (k'.trans k3).trans k4, f3.trans f4, (x'.trans gr.b).trans f4.b, h'⟩
          | cnt => exact fun σ4 B4 H4 S4 r4 k4 f4 => ⟨B4, e4, S4, r4, (k'.trans k3).trans k4, f3.trans f4, (x'.trans gr.b).trans f4.b, h'⟩
          | brk => exact fun σ4 B4 H4 S4 r4 k4 f4 => (show Nd X.K D ks B H S σ .next e4 from h') σ4 B4 H4 S4 r4 ((k'.trans k3).trans k4) (f3.trans f4)
          | ret o => exact fun v σ4 B4 H4 S4 T4 vl k4 f4 => (show Nd X.K D ks B H S σ (.ret o) e4 from h') v σ4 B4 H4 S4 T4 vl ((k'.trans k3).trans k4) (f3.trans f4)
  · rw [List.drop_length] at h'
    exact (show Nd X.K D ks B H S σ .next e' from h') σ' B' H' S' r' k' f'
theorem s_while {c : Expr} {body : List Stmt} {t : M Bool} (n : Nat) (hp : PassesOwn (model X.prog X.w) X.A X.env X.xe) (hc : PT X c (tT X.K X.mg W t)) (hb : PSs X body (tS X.K X.mg W ks g)) : PS X (.While c body [] pos) (tS X.K X.mg W ks (whL t g n)) := ps_imp (ps_while hp hc hb) fun D σ H h => by
  obtain ⟨B, e, S, r, h⟩ := h
  have h0 : Post (whL t g n e) (Nd X.K D ks B H S σ) (ExS X.K X.mg W ks B H S σ) := h
  refine ⟨fun m σ' H' => ∃ B' e' S', Rp X.K B' H' σ' e' S' ∧ Kp ks σ σ' ∧ Fr B H (tot S) B' H' (tot S') ∧ Post (whL t g m e') (Nd X.K D ks B H S σ) (ExS X.K X.mg W ks B H S σ), ⟨n, B, e, S, r, Kp.refl _ _, Fr.refl _ _ _, h0⟩, fun m σ' H' ⟨B', e', S', r', k', f', h'⟩ => ?_⟩
  cases m with
  | zero => exact h'.elim
  | succ m =>
    unfold whL at h'
    refine ⟨B', e', S', r', h'.bind.imp (fun b e2 h2 B2 H2 S2 r2 f2 => ?_) fun x e2 z => (ExS.step z k' f').toE⟩
    cases b with
    | false => exact iteF ((show Nd X.K D ks B H S σ .next e2 from h2) σ' B2 H2 S2 r2 k' (f'.trans f2))
    | true =>
      refine iteT ⟨fun σ4 H4 => ∃ m', m' < m + 1 ∧ ∃ B' e' S', Rp X.K B' H4 σ4 e' S' ∧ Kp ks σ σ4 ∧ Fr B H (tot S) B' H4 (tot S') ∧ Post (whL t g m' e') (Nd X.K D ks B H S σ) (ExS X.K X.mg W ks B H S σ), fun σ4 H4 ⟨m', hm, z⟩ => ⟨m', hm, z⟩, B2, e2, S2, r2, ?_⟩
      rw [if_pos rfl] at h2
      cases qb : g e2 with
      | none => simp only [qb] at h2; exact h2.elim
      | some rr =>
        cases rr with
        | ex x2 e4 =>
          simp only [qb] at h2
          exact ExS.step h2 k' (f'.trans f2)
        | ok fl e4 =>
          simp only [qb] at h2
          cases fl with
          | next => exact fun σ4 B4 H4 S4 r4 k4 f4 => ⟨m, Nat.lt_succ_self m, B4, e4, S4, r4, k'.trans k4, (f'.trans f2).trans f4, h2⟩
          | cnt => exact fun σ4 B4 H4 S4 r4 k4 f4 => ⟨m, Nat.lt_succ_self m, B4, e4, S4, r4, k'.trans k4, (f'.trans f2).trans f4, h2⟩
          | brk => exact fun σ4 B4 H4 S4 r4 k4 f4 => (show Nd X.K D ks B H S σ .next e4 from h2) σ4 B4 H4 S4 r4 (k'.trans k4) ((f'.trans f2).trans f4)
          | ret o => exact fun v σ4 B4 H4 S4 T4 vl k4 f4 => (show Nd X.K D ks B H S σ (.ret o) e4 from h2) v σ4 B4 H4 S4 T4 vl (k'.trans k4) ((f'.trans f2).trans f4)
end
end Dn

namespace Dn
open PySem L2
open Evl (Ex)

/-! ## 9. Defs and calls -/
inductive RF where
  | ok (o : O) (os : List O) | ex (x : Exn) (os : List O)
abbrev Fn := List O → Option RF
/-- the arguments: a slot handed on as it stands, or a value that is kept -/
def cops : List P → M (List O)
  | [] => M.pure []
  | .b i :: ps => fun e => match e[i]? with
    | some (some _) => (cops ps).bind (fun os e' => match e'[i]? with
      | some (some o) => some (.ok (o :: os) e')
      | _ => none) e
    | _ => none
  | .v f :: ps => f.bind fun o => (cops ps).bind fun os => M.pure (.fr o.d :: os)
/-- behind the call the slots that were handed on -/
def wb : List P → List O → Sl → Sl
  | .b i :: ps, o :: os, e => (wb ps os e).set i (some o)
  | .v _ :: ps, _ :: os, e => wb ps os e
  | _, _, e => e
def bs : List P → List Nat
  | [] => []
  | .b i :: ps => i :: bs ps
  | .v _ :: ps => bs ps
def eCall (F : Fn) (ps : List P) (dv : List D) : M O := (cops ps).bind fun os e => match F (os ++ dv.map .fr) with
  | none => none
  | some (.ok o os') => some (.ok o (wb ps os' e))
  | some (.ex x os') => some (.ex x (wb ps os' e))
def RetP (K : PySem.W.Frag) (mg : Str → Option Value) (B H : Hp) (S : Addr → Prop) (vs : List V) (Q : VK) (E : XK) : Option RF → Prop
  | none => False
  | some (.ok o os') => ∀ v B' H' S' T, os'.length = vs.length → Vl K B' H' (vs.map some) (os'.map some) S' v o T → Fr B H S B' H' (fun a => T a ∨ tot S' a) → Q v H'
  | some (.ex x os') => ∀ (C d : Addr) (fs : List (Str × V)) (B' H' : Hp) (S' : Nat → Addr → Prop), os'.length = vs.length → mg x.cls = some (.ref C) → Rp K B' H' (vs.map some) (os'.map some) S' → H' d = some (.xd fs) → XF K B' fs x.fs → H d = none → Fr B H S B' H' (tot S') → E (.ref C) (some d) H'
def spD (K : PySem.W.Frag) (mg : Str → Option Value) (n : Nat) (F : Fn) : Sp := fun vs H Q E => vs.length = n ∧ ∃ B os S, Rp K B H (vs.map some) (os.map some) S ∧ RetP K mg B H (tot S) vs Q E (F os)

section
variable {K : PySem.W.Frag} {mg : Str → Option Value} {W : WX} {B B' H H' : Hp} {v x y : V} {o : O} {d : D} {σ σ' : St} {e e' : Sl} {S S' : Nat → Addr → Prop} {T T' : Addr → Prop} {ks : List Nat}
theorem RepO.iff (h : RepO K B H v o T) (i : ∀ a, T a ↔ T' a) : RepO K B H v o T' := by
  cases o with
  | fr d => exact ⟨h.1, fun a z => h.2 a ((i a).mpr z)⟩
  | lst ds =>
    obtain ⟨p, xs, e, hp, hr, hs⟩ := h
    exact ⟨p, xs, e, hp, hr, fun a => (i a).symm.trans (hs a)⟩
  | dct kvs =>
    obtain ⟨p, kv, e, hp, hk, hr, hs⟩ := h
    exact ⟨p, kv, e, hp, hk, hr, fun a => (i a).symm.trans (hs a)⟩
  | ins c ns xs =>
    obtain ⟨p, C, dx, fs, e, hp, hc, hk, hr, hs⟩ := h
    exact ⟨p, C, dx, fs, e, hp, hc, hk, hr, fun a => (i a).symm.trans (hs a)⟩
  | exn a d x =>
    obtain ⟨e, hx, hs⟩ := h
    exact ⟨e, hx, fun a z => hs a ((i a).mpr z)⟩
  | tr t => exact RepT.iff h i
/-- where an argument's own addresses come from -/
def argS (ps : List P) (S : Nat → Addr → Prop) : Nat → Addr → Prop := fun k a => ∃ i, ps[k]? = some (.b i) ∧ S i a
/-- the arguments, as they stand at the call -/
def ArgR (K : PySem.W.Frag) (B H : Hp) (σ : St) (S : Nat → Addr → Prop) : List P → List V → List O → Prop
  | [], [], [] => True
  | .b i :: ps, v :: vs, o :: os => σ[i]? = some (some v) ∧ RepO K B H v o (S i) ∧ ArgR K B H σ S ps vs os
  | .v _ :: ps, v :: vs, o :: os => RepO K B H v o noS ∧ ArgR K B H σ S ps vs os
  | _, _, _ => False
theorem cops_run : ∀ (ps : List P) {B H : Hp} {e : Sl} {S : Nat → Addr → Prop} (Q : List V → Hp → Prop), Rp K B H σ e S →
    Post (cops ps e) (fun os e' => ∀ vs B' H' S', Rp K B' H' σ e' S' → ArgR K B' H' σ S' ps vs os → Fr B H (tot S) B' H' (tot S') → Q vs H') (fun x e' => ExE K mg W B H S σ x e') → tPs K mg W ps σ H Q
  | [], B, H, e, S, Q, r, h => h [] B H S r trivial (Fr.refl _ _ _)
  | .b i :: ps, B, H, e, S, Q, r, h => by
    unfold cops at h
    cases q : e[i]? with
    | none => rw [q] at h; exact h.elim
    | some u =>
      cases u with
      | none => rw [q] at h; exact h.elim
      | some o0 =>
        rw [q] at h
        obtain ⟨v, hv, _⟩ := r.rep i o0 q
        refine ⟨v, hv, cops_run ps _ r (h.bind.imp (fun ds e' h vs B' H' S' r' rl f => ?_) fun _ _ z => z)⟩
        cases q' : e'[i]? with
        | none => rw [q'] at h; exact h.elim
        | some u' =>
          cases u' with
          | none => rw [q'] at h; exact h.elim
          | some o =>
            rw [q'] at h
            obtain ⟨v', hv', ro⟩ := r'.rep i o q'
            rw [hv] at hv'; cases hv'
            have h' : ∀ vs B' H' S', Rp K B' H' σ e' S' → ArgR K B' H' σ S' (.b i :: ps) vs (o :: ds) → Fr B H (tot S) B' H' (tot S') → Q vs H' := h
            exact h' _ B' H' S' r' ⟨hv, ro, rl⟩ f
  | .v f :: ps, B, H, e, S, Q, r, h => by
    unfold cops at h
    refine ⟨B, e, S, r, h.bind.imp (fun o e1 h v B1 H1 S1 T vl f1 => ?_) fun _ _ z => z⟩
    obtain ⟨B2, vl2, f2⟩ := vl.freeze
    have f3 : Fr B H (tot S) B2 H1 (tot S1) := f1.trans ⟨f2.b, fun a o q _ => q, fun a z => .inl (.inr z), fun a u q => (f2.c a u q).elim .inl fun z => .inr (z.elim (fun z => .inl (.inl z)) .inr), fun a o q => ⟨o, q⟩⟩
    refine cops_run ps _ vl2.rp (h.bind.imp (fun ds e' h vs B' H' S' r' rl f4 => ?_) fun x e' z => z.step f3)
    have h' : ∀ vs B' H' S', Rp K B' H' σ e' S' → ArgR K B' H' σ S' (.v f :: ps) vs (.fr o.d :: ds) → Fr B H (tot S) B' H' (tot S') → Q vs H' := h
    exact h' _ B' H' S' r' ⟨⟨vl2.ro.1.mono f4.b, fun _ z => z⟩, rl⟩ (f3.trans f4)
theorem ArgR.len : ∀ {ps : List P} {vs : List V} {os : List O}, ArgR K B H σ S ps vs os → vs.length = ps.length ∧ os.length = ps.length
  | [], [], [], _ => ⟨rfl, rfl⟩
  | .b i :: ps, v :: vs, o :: os, h => by
    obtain ⟨a, b⟩ := ArgR.len h.2.2
    exact ⟨by rw [List.length_cons, List.length_cons, a], by rw [List.length_cons, List.length_cons, b]⟩
  | .v _ :: ps, v :: vs, o :: os, h => by
    obtain ⟨a, b⟩ := ArgR.len h.2
    exact ⟨by rw [List.length_cons, List.length_cons, a], by rw [List.length_cons, List.length_cons, b]⟩
  | [], _ :: _, _, h => h.elim
  | [], [], _ :: _, h => h.elim
  | .b _ :: _, [], _, h => h.elim
  | .b _ :: _, _ :: _, [], h => h.elim
  | .v _ :: _, [], _, h => h.elim
  | .v _ :: _, _ :: _, [], h => h.elim
theorem ArgR.at : ∀ {ps : List P} {vs : List V} {os : List O} {k : Nat} {o : O}, ArgR K B H σ S ps vs os → os[k]? = some o → ∃ v, vs[k]? = some v ∧ RepO K B H v o (argS ps S k) ∧ ∀ i, ps[k]? = some (.b i) → σ[i]? = some (some v)
  | [], [], [], k, o, _, e => by simp at e
  | .b i :: ps, v :: vs, o' :: os, 0, o, h, e => by
    simp at e; subst e
    refine ⟨v, rfl, h.2.1.iff fun a => ⟨fun z => ⟨i, rfl, z⟩, fun ⟨j, hj, z⟩ => ?_⟩, fun j hj => ?_⟩
    · have hj' : some (P.b i) = some (P.b j) := hj
      cases hj'; exact z
    · have hj' : some (P.b i) = some (P.b j) := hj
      cases hj'; exact h.1
  | .v _ :: ps, v :: vs, o' :: os, 0, o, h, e => by
    simp at e; subst e
    refine ⟨v, rfl, h.1.iff fun a => ⟨fun z => z.elim, fun ⟨j, hj, z⟩ => ?_⟩, fun j hj => ?_⟩
    · cases hj
    · cases hj
  | .b i :: ps, v :: vs, o' :: os, k + 1, o, h, e => by
    obtain ⟨v', a, b, c⟩ := ArgR.at (k := k) h.2.2 (by simpa using e)
    exact ⟨v', by simpa using a, b, c⟩
  | .v _ :: ps, v :: vs, o' :: os, k + 1, o, h, e => by
    obtain ⟨v', a, b, c⟩ := ArgR.at (k := k) h.2 (by simpa using e)
    exact ⟨v', by simpa using a, b, c⟩
  | [], _ :: _, _, _, _, h, _ => h.elim
  | [], [], _ :: _, _, _, h, _ => h.elim
  | .b _ :: _, [], _, _, _, h, _ => h.elim
  | .b _ :: _, _ :: _, [], _, _, h, _ => h.elim
  | .v _ :: _, [], _, _, _, h, _ => h.elim
  | .v _ :: _, _ :: _, [], _, _, h, _ => h.elim
theorem bs_mem : ∀ {ps : List P} {k i : Nat}, ps[k]? = some (.b i) → i ∈ bs ps
  | .b j :: ps, 0, i, h => by
    have h' : some (P.b j) = some (P.b i) := h
    cases h'; exact List.mem_cons_self
  | .v _ :: _, 0, _, h => by cases h
  | .b j :: ps, k + 1, i, h => List.mem_cons_of_mem _ (bs_mem (ps := ps) (k := k) h)
  | .v _ :: ps, k + 1, i, h => bs_mem (ps := ps) (k := k) h
theorem bs_inj : ∀ {ps : List P} {k l i : Nat}, (bs ps).Nodup → ps[k]? = some (.b i) → ps[l]? = some (.b i) → k = l
  | .b j :: ps, 0, 0, _, _, _, _ => rfl
  | .b j :: ps, 0, l + 1, i, n, h1, h2 => by
    have h' : some (P.b j) = some (P.b i) := h1
    cases h'
    exact absurd (bs_mem (ps := ps) (k := l) h2) (List.nodup_cons.mp n).1
  | .b j :: ps, k + 1, 0, i, n, h1, h2 => by
    have h' : some (P.b j) = some (P.b i) := h2
    cases h'
    exact absurd (bs_mem (ps := ps) (k := k) h1) (List.nodup_cons.mp n).1
  | .b j :: ps, k + 1, l + 1, i, n, h1, h2 => congrArg (· + 1) (bs_inj (ps := ps) (List.nodup_cons.mp n).2 h1 h2)
  | .v _ :: ps, 0, _, _, _, h1, _ => by cases h1
  | .v _ :: ps, _ + 1, 0, _, _, _, h2 => by cases h2
  | .v _ :: ps, k + 1, l + 1, i, n, h1, h2 => congrArg (· + 1) (bs_inj (ps := ps) n h1 h2)
  | [], _, _, _, _, h, _ => by simp at h
theorem wb_length : ∀ (ps : List P) (os : List O) (e : Sl), (wb ps os e).length = e.length
  | .b i :: ps, o :: os, e => by unfold wb; rw [List.length_set, wb_length ps os e]
  | .v _ :: ps, _ :: os, e => by unfold wb; exact wb_length ps os e
  | [], _, _ => by unfold wb; rfl
  | .b _ :: _, [], _ => by unfold wb; rfl
  | .v _ :: _, [], _ => by unfold wb; rfl
theorem wb_at : ∀ {ps : List P} {os : List O} {e : Sl} {j : Nat} {o : O}, os.length = ps.length → (wb ps os e)[j]? = some (some o) → (∃ k : Nat, ps[k]? = some (P.b j) ∧ os[k]? = some o) ∨ ((∀ k : Nat, ps[k]? ≠ some (P.b j)) ∧ e[j]? = some (some o))
  | [], os, e, j, o, _, h => .inr ⟨fun k z => by simp at z, by unfold wb at h; exact h⟩
  | .b i :: ps, [], _, _, _, l, _ => by simp at l
  | .v _ :: ps, [], _, _, _, l, _ => by simp at l
  | .b i :: ps, o' :: os, e, j, o, l, h => by
    unfold wb at h
    by_cases hj : i = j
    · subst hj
      by_cases hl : i < (wb ps os e).length
      · rw [List.getElem?_set_self hl] at h
        cases h
        exact .inl ⟨0, rfl, rfl⟩
      · rw [List.getElem?_eq_none (by rw [List.length_set]; omega)] at h; cases h
    · rw [List.getElem?_set_ne hj] at h
      rcases wb_at (ps := ps) (os := os) (by simpa using l) h with ⟨k, a, b⟩ | ⟨a, b⟩
      · exact .inl ⟨k + 1, a, b⟩
      · refine .inr ⟨fun k z => ?_, b⟩
        cases k with
        | zero =>
          have z' : some (P.b i) = some (P.b j) := z
          cases z'; exact hj rfl
        | succ k => exact a k z
  | .v _ :: ps, o' :: os, e, j, o, l, h => by
    unfold wb at h
    rcases wb_at (ps := ps) (os := os) (by simpa using l) h with ⟨k, a, b⟩ | ⟨a, b⟩
    · exact .inl ⟨k + 1, a, b⟩
    · refine .inr ⟨fun k z => ?_, b⟩
      cases k with
      | zero => cases z
      | succ k => exact a k z
/-- what the callee is handed -/
theorem ArgR.rp {ps : List P} {vs : List V} {os : List O} (h : ArgR K B H σ S ps vs os) (r : Rp K B H σ e S) (n : (bs ps).Nodup) : Rp K B H (vs.map some) (os.map some) (argS ps S) := by
  obtain ⟨l1, l2⟩ := h.len
  refine ⟨by rw [List.length_map, List.length_map, l1, l2], r.ex, fun k o ho => ?_, fun k l a ⟨i, h1, h2⟩ ⟨j, h3, h4⟩ => ?_, fun k a ⟨i, h1, h2⟩ => r.own i a h2⟩
  · rw [List.getElem?_map] at ho
    obtain ⟨o', ho, eo⟩ := Option.map_eq_some_iff.mp ho
    cases eo
    obtain ⟨v, a, b, _⟩ := h.at ho
    exact ⟨v, by rw [List.getElem?_map, a]; rfl, b⟩
  · obtain rfl := r.dis i j a h2 h4
    exact bs_inj n h1 h3
theorem tot_argS {ps : List P} {a : Addr} (h : tot (argS ps S) a) : tot S a := let ⟨_, i, _, z⟩ := h; ⟨i, z⟩
/-- behind the call: the slots handed on as the callee left them, the others as they were -/
def retS (ps : List P) (S S1 : Nat → Addr → Prop) : Nat → Addr → Prop := fun j a => (∃ k : Nat, ps[k]? = some (P.b j) ∧ S1 k a) ∨ ((∀ k : Nat, ps[k]? ≠ some (P.b j)) ∧ S j a)
theorem back_rp {ps : List P} {vs : List V} {os os' : List O} {B1 H1 : Hp} {S1 : Nat → Addr → Prop} {T : Addr → Prop} (h : ArgR K B H σ S ps vs os) (r : Rp K B H σ e S) (n : (bs ps).Nodup) (l : os'.length = ps.length)
    (r1 : Rp K B1 H1 (vs.map some) (os'.map some) S1) (f : Fr B H (tot (argS ps S)) B1 H1 (fun a => T a ∨ tot S1 a)) :
    Rp K B1 H1 σ (wb ps os' e) (retS ps S S1) ∧ Fr B H (tot S) B1 H1 (fun a => T a ∨ tot (retS ps S S1) a) ∧ ∀ a, T a → (∀ k, ¬ S1 k a) → ¬ tot (retS ps S S1) a := by
  obtain ⟨l1, l2⟩ := h.len
  have fr0 : ∀ j : Nat, (∀ k : Nat, ps[k]? ≠ some (P.b j)) → ∀ a, S j a → ¬ tot (argS ps S) a := fun j hj a ha ⟨k, i, h1, h2⟩ => by
    obtain rfl := r.dis j i a ha h2
    exact hj k h1
  have nt : ∀ j : Nat, (∀ k : Nat, ps[k]? ≠ some (P.b j)) → ∀ a, S j a → ¬ (T a ∨ tot S1 a) := fun j hj a ha z => by
    rcases f.n a z with y | y
    · exact fr0 j hj a ha y
    · obtain ⟨_, u, hu⟩ := r.own j a ha
      rw [hu] at y; cases y
  refine ⟨⟨by rw [wb_length]; exact r.len, r1.ex, fun j o ho => ?_, fun i j a h1 h2 => ?_, fun j a h1 => ?_⟩, ⟨f.b, fun a o q hs => f.k a o q fun z => hs (tot_argS z), fun a z => ?_, fun a o q => (f.c a o q).elim .inl fun z => .inr (z.elim (fun z => .inl (tot_argS z)) .inr), f.a⟩, fun a ht hn ⟨j, z⟩ => ?_⟩
  · rcases wb_at l ho with ⟨k, a, b⟩ | ⟨a, b⟩
    · obtain ⟨v, hv, ro⟩ := r1.rep k o (by rw [List.getElem?_map, b]; rfl)
      rw [List.getElem?_map] at hv
      obtain ⟨v', hv, ev⟩ := Option.map_eq_some_iff.mp hv
      cases ev
      have hk : k < os.length := by
        have := (List.getElem?_eq_some_iff.mp b).1
        omega
      obtain ⟨v2, e1, _, e2⟩ := h.at (List.getElem?_eq_getElem hk)
      rw [hv] at e1; cases e1
      refine ⟨v, e2 j a, ro.iff fun x => ⟨fun z => .inl ⟨k, a, z⟩, fun z => ?_⟩⟩
      rcases z with ⟨k', a', z⟩ | ⟨a', z⟩
      · rw [bs_inj n a a']; exact z
      · exact absurd a (a' k)
    · obtain ⟨v, hv, ro⟩ := r.rep j o b
      obtain ⟨ro2, _, _⟩ := ro.frame (r.own j) (fr0 j a) f
      refine ⟨v, hv, ro2.iff fun x => ⟨fun z => .inr ⟨a, z⟩, fun z => ?_⟩⟩
      rcases z with ⟨k', a', z⟩ | ⟨a', z⟩
      · exact absurd a' (a k')
      · exact z
  · rcases h1 with ⟨k, a1, z1⟩ | ⟨a1, z1⟩ <;> rcases h2 with ⟨k', a2, z2⟩ | ⟨a2, z2⟩
    · obtain rfl := r1.dis k k' a z1 z2
      rw [a1] at a2; cases a2; rfl
    · exact absurd (.inr ⟨k, z1⟩) (nt j a2 a z2)
    · exact absurd (.inr ⟨k', z2⟩) (nt i a1 a z1)
    · exact r.dis i j a z1 z2
  · rcases h1 with ⟨k, a1, z1⟩ | ⟨a1, z1⟩
    · exact r1.own k a z1
    · obtain ⟨v, hv, ro⟩ : True ∧ True ∧ True := ⟨trivial, trivial, trivial⟩
      obtain ⟨b0, u, hu⟩ := r.own j a z1
      have hk := f.k a u hu (fr0 j a1 a z1)
      refine ⟨?_, u, hk⟩
      cases q : B1 a with
      | none => rfl
      | some w =>
        rcases f.c a w q with z | z | z
        · rw [b0] at z; cases z
        · exact absurd z (fr0 j a1 a z1)
        · rw [hu] at z; cases z
  · rcases z with z | ⟨j, z⟩
    · rcases f.n a (.inl z) with y | y
      · exact .inl (tot_argS y)
      · exact .inr y
    · rcases z with ⟨k, a1, z1⟩ | ⟨a1, z1⟩
      · rcases f.n a (.inr ⟨k, z1⟩) with y | y
        · exact .inl (tot_argS y)
        · exact .inr y
      · exact .inl ⟨j, z1⟩
  · rcases z with ⟨k, a1, z1⟩ | ⟨a1, z1⟩
    · exact hn k z1
    · exact nt j a1 a z1 (.inl ht)
/-- default values behind the written arguments -/
theorem ArgR.dv : ∀ {ps : List P} {vs : List V} {os : List O} {ws : List V} {ds : List D}, ArgR K B H σ S ps vs os → RepL K B ws ds → ArgR K B H σ S (ps ++ ds.map fun d => P.v (eC d)) (vs ++ ws) (os ++ ds.map O.fr)
  | [], [], [], [], [], _, .nil => trivial
  | [], [], [], _ :: _, _ :: _, h, .cons r rs => ⟨⟨r, fun _ z => z⟩, ArgR.dv (ps := []) (vs := []) (os := []) trivial rs⟩
  | .b i :: ps, v :: vs, o :: os, ws, ds, h, r => ⟨h.1, h.2.1, ArgR.dv h.2.2 r⟩
  | .v _ :: ps, v :: vs, o :: os, ws, ds, h, r => ⟨h.1, ArgR.dv h.2 r⟩
  | [], _ :: _, _, _, _, h, _ => h.elim
  | [], [], _ :: _, _, _, h, _ => h.elim
  | .b _ :: _, [], _, _, _, h, _ => h.elim
  | .b _ :: _, _ :: _, [], _, _, h, _ => h.elim
  | .v _ :: _, [], _, _, _, h, _ => h.elim
  | .v _ :: _, _ :: _, [], _, _, h, _ => h.elim
theorem bs_dv : ∀ (ps : List P) (ds : List D), bs (ps ++ ds.map fun d => P.v (eC d)) = bs ps
  | [], [] => rfl
  | [], d :: ds => by show bs (ds.map fun d => P.v (eC d)) = []; exact bs_dv [] ds
  | .b i :: ps, ds => congrArg (i :: ·) (bs_dv ps ds)
  | .v _ :: ps, ds => bs_dv ps ds
theorem wb_dv : ∀ (ps : List P) (ds : List D) (os : List O) (e : Sl), wb (ps ++ ds.map fun d => P.v (eC d)) os e = wb ps os e
  | [], [], os, e => rfl
  | [], d :: ds, [], e => rfl
  | [], d :: ds, o :: os, e => by
    show wb (ds.map fun d => P.v (eC d)) os e = e
    exact wb_dv [] ds os e
  | .b i :: ps, ds, [], e => rfl
  | .v _ :: ps, ds, [], e => rfl
  | .b i :: ps, ds, o :: os, e => by
    show (wb (ps ++ ds.map fun d => P.v (eC d)) os e).set i (some o) = (wb ps os e).set i (some o)
    rw [wb_dv ps ds os e]
  | .v _ :: ps, ds, o :: os, e => by
    show wb (ps ++ ds.map fun d => P.v (eC d)) os e = wb ps os e
    rw [wb_dv ps ds os e]
end

/-- a def of the module, by its name: what it computes -/
structure Cl (P : Program) (w : World) (K : PySem.W.Frag) (mg : Str → Option Value) (base : Heap) (k : Nat) (x : Str) (n : Nat) (F : Fn) (dv : List D) : Prop where
  ex : ∃ (f : Addr) (fd : FuncData) (ps : List Str) (ds : List Value) (dvs : List V), ps.length = n ∧ FnOk P w K mg base (L2.CX P w) k f fd ps (spD K mg ps.length F) ∧ mg x = some (.ref f) ∧ PySem.W.keepIn K (.ref f) = true ∧ Binds K fd ps ds ∧ Vals dvs ds ∧ ∀ B, RepL K B dvs dv
theorem Cl.mono {P : Program} {w : World} {K : PySem.W.Frag} {mg : Str → Option Value} {base : Heap} {k l n : Nat} {x : Str} {F : Fn} {dv : List D} (h : Cl P w K mg base k x n F dv) (hl : k ≤ l) : Cl P w K mg base l x n F dv := by
  obtain ⟨f, fd, ps, ds, dvs, h0, h1, h2⟩ := h.ex
  exact ⟨f, fd, ps, ds, dvs, h0, h1.mono hl, h2⟩
section
variable {X : Cx} {W : WX} {x : Str} {p pos : Pos} {e : Expr} {es : List Expr} {k j n : Nat} {F : Fn} {dv : List D} {ps : List P}
theorem call_core {H : Hp} {σ : St} {Q : VK} {dvs : List V} (hl : dvs.length = dv.length) (hn : n = ps.length + dv.length) (nd : (bs ps).Nodup) (hdv : ∀ B, RepL X.K B dvs dv) (h : tE X.K X.mg W (eCall F ps dv) σ H Q) :
    tPs X.K X.mg W ps σ H fun vs H1 => spD X.K X.mg n F (vs ++ dvs) H1 Q (WE W σ) := by
  obtain ⟨B, e, S, r, h⟩ := h
  refine cops_run ps _ r (h.bind.imp (fun os e' h vs B' H' S' r' ar f => ?_) fun _ _ z => z)
  have ar2 := ar.dv (hdv B')
  have nd2 : (bs (ps ++ dv.map fun d => P.v (eC d))).Nodup := by rw [bs_dv]; exact nd
  obtain ⟨l1, l2⟩ := ar2.len
  have lp : (ps ++ dv.map fun d => P.v (eC d)).length = ps.length + dv.length := by rw [List.length_append, List.length_map]
  refine ⟨by rw [l1, lp, hn], B', _, _, ar2.rp r' nd2, ?_⟩
  have h0 : Post (match F (os ++ dv.map .fr) with
    | none => none
    | some (.ok o os') => some (Ro.ok o (wb ps os' e'))
    | some (.ex x os') => some (.ex x (wb ps os' e'))) (fun o e' => ∀ v B' H' S' T, Vl X.K B' H' σ e' S' v o T → Fr B H (tot S) B' H' (fun a => T a ∨ tot S' a) → Q v H') (fun x e' => ExE X.K X.mg W B H S σ x e') := h
  cases q : F (os ++ dv.map .fr) with
  | none => rw [q] at h0; exact h0.elim
  | some rf =>
    rw [q] at h0
    cases rf with
    | ok o os' =>
      intro v B1 H1 S1 T lo vl f1
      have lo' : os'.length = (ps ++ dv.map fun d => P.v (eC d)).length := by rw [lo, l1]
      obtain ⟨r3, f3, dj⟩ := back_rp ar2 r' nd2 lo' vl.rp f1
      rw [wb_dv] at r3
      have h' : ∀ v B' H' S' T, Vl X.K B' H' σ (wb ps os' e') S' v o T → Fr B H (tot S) B' H' (fun a => T a ∨ tot S' a) → Q v H' := h0
      exact h' v B1 H1 _ T ⟨r3, vl.ro, vl.own, fun a ha => dj a ha fun k z => vl.dj a ha ⟨k, z⟩⟩ (f.trans f3)
    | ex x os' =>
      intro C d fs B1 H1 S1 lo hC r1 hd hf hdn f1
      have lo' : os'.length = (ps ++ dv.map fun d => P.v (eC d)).length := by rw [lo, l1]
      obtain ⟨r3, f3, _⟩ := back_rp (T := noS) ar2 r' nd2 lo' r1 (f1.imp (fun _ z => z) fun a z => z.elim (fun z => z.elim) id)
      rw [wb_dv] at r3
      have h' : ExE X.K X.mg W B H S σ x (wb ps os' e') := h0
      exact h' C d fs B1 H1 _ hC r3 hd hf (f.back hdn) ((f.trans f3).imp (fun _ z => z) fun _ z => .inr z)
theorem d_call (C : Cl X.prog X.w X.K X.mg X.base k x n F dv) (hr : Room j X.A) (tk : Takes X W) (ha : PA X (e :: es) (tPs X.K X.mg W ps)) (hk : k ≤ j := by decide) (hg : Gl X x := by rfl) (hn : n = ps.length + dv.length := by rfl) (nd : (bs ps).Nodup := by decide)
    (hdb : (x == ("__debug__" : Str)) = false := by decide) (he : starEach (e :: es) X.env = (false, eval e X.env) :: starEach es X.env := by rfl) (hpl : (backTo pos (starEach es X.env)).any (·.1) = false := by rfl) :
    PE X (.Call (.Name x p) (e :: es) [] pos) (tE X.K X.mg W (eCall F ps dv)) := by
  obtain ⟨f, fd, pn, ds, dvs, h0, h1, h2, h3, h4, h5, h6⟩ := C.ex
  have hl : dvs.length = dv.length := (h6 fun _ => none).length
  refine ⟨fun pins s σ H Q I h => ?_⟩
  refine (pe_callSD (t := tPs X.K X.mg W ps) (E := WE W) h1 (hr.mono hk) hg h2 h3 h4 h5 (fun σ => passAt tk σ) ha hdb he hpl).run pins s σ H Q I ?_
  exact call_core hl (h0.trans hn) nd h6 h
end
end Dn

namespace Dn
open PySem L2
open PyProof.Rows (envOfC)
open Evl (Ex)

/-! ## 10. A def by its body -/
/-- what the parameters hold behind the body: those of ks as they stand, the others as they came (frozen) -/
def finO (ks : List Nat) : Nat → List O → Sl → Option (List O)
  | _, [], _ => some []
  | k, o :: os, e => match (if k ∈ ks then (match e[k]? with | some (some o') => some o' | _ => none) else (match o with | .fr d => some (.fr d) | _ => none)) with
    | some o' => (finO ks (k + 1) os e).map (o' :: ·)
    | none => none
def mkF (m : Nat) (ks : List Nat) (g : M Fl) : Fn := fun os => match g (os.map some ++ List.replicate (m - os.length) none) with
  | some (.ok fl e') => match fl with
    | .ret o => (finO ks 0 os e').map (RF.ok o)
    | .next => (finO ks 0 os e').map (RF.ok (.fr .non))
    | _ => none
  | some (.ex x e') => (finO ks 0 os e').map (RF.ex x)
  | none => none
theorem finO_at {ks : List Nat} : ∀ {os : List O} {j : Nat} {e : Sl} {os' : List O}, finO ks j os e = some os' → os'.length = os.length ∧ ∀ k o', os'[k]? = some o' → (j + k ∈ ks ∧ e[j + k]? = some (some o')) ∨ (j + k ∉ ks ∧ os[k]? = some o' ∧ ∃ d, o' = .fr d)
  | [], j, e, os', h => by
    cases h
    exact ⟨rfl, fun k o' z => by simp at z⟩
  | o :: os, j, e, os', h => by
    unfold finO at h
    split at h
    · rename_i o1 h1
      obtain ⟨os1, h2, rfl⟩ := Option.map_eq_some_iff.mp h
      obtain ⟨l, at_⟩ := finO_at h2
      refine ⟨by rw [List.length_cons, List.length_cons, l], fun k o' z => ?_⟩
      cases k with
      | zero =>
        have z' : some o1 = some o' := z
        cases z'
        by_cases hj : j ∈ ks
        · rw [if_pos hj] at h1
          refine .inl ⟨hj, ?_⟩
          split at h1
          · rename_i o2 h3
            cases h1; exact h3
          · cases h1
        · rw [if_neg hj] at h1
          refine .inr ⟨hj, ?_⟩
          split at h1
          · cases h1; exact ⟨rfl, _, rfl⟩
          · cases h1
      | succ k =>
        have := at_ k o' z
        rw [show j + (k + 1) = j + 1 + k by omega]
        exact this
    · cases h
section
variable {P : Program} {w : World} {K : PySem.W.Frag} {mg : Str → Option Value} {base : Heap}
theorem fin_rp {B H : Hp} {vs : List V} {os os' : List O} {S : Nat → Addr → Prop} {ks : List Nat} {B' H' : Hp} {σ σ' : St} {e' : Sl} {S' : Nat → Addr → Prop} (r : Rp K B H (vs.map some) (os.map some) S) (hf : finO ks 0 os e' = some os') (hσ : ∀ k : Nat, k < vs.length → σ[k]? = (vs.map some)[k]?)
    (r' : Rp K B' H' σ' e' S') (k' : Kp ks σ σ') (hb : Ex B B') : os'.length = vs.length ∧ Rp K B' H' (vs.map some) (os'.map some) (fun k => if k ∈ ks then S' k else noS) := by
  obtain ⟨l, at_⟩ := finO_at hf
  have l2 : vs.length = os.length := by have := r.len; rwa [List.length_map, List.length_map] at this
  refine ⟨by omega, ⟨by rw [List.length_map, List.length_map]; omega, r'.ex, fun k o ho => ?_, fun i j a h1 h2 => ?_, fun i a h1 => ?_⟩⟩
  · rw [List.getElem?_map] at ho
    obtain ⟨o1, ho, e1⟩ := Option.map_eq_some_iff.mp ho
    cases e1
    have hk : k < vs.length := by have := (List.getElem?_eq_some_iff.mp ho).1; omega
    rcases at_ k o ho with ⟨a, b⟩ | ⟨a, b, d, rfl⟩
    · rw [Nat.zero_add] at a b
      obtain ⟨v, hv, ro⟩ := r'.rep k o b
      rw [k' k a, hσ k hk] at hv
      exact ⟨v, hv, by rw [if_pos a]; exact ro⟩
    · rw [Nat.zero_add] at a
      obtain ⟨v, hv, ro⟩ := r.rep k _ (show (os.map some)[k]? = some (some (O.fr d)) by rw [List.getElem?_map, b]; rfl)
      exact ⟨v, hv, by rw [if_neg a]; exact ⟨ro.1.mono hb, fun _ z => z⟩⟩
  · by_cases hi : i ∈ ks
    · by_cases hj : j ∈ ks
      · rw [if_pos hi] at h1; rw [if_pos hj] at h2; exact r'.dis i j a h1 h2
      · rw [if_neg hj] at h2; exact h2.elim
    · rw [if_neg hi] at h1; exact h1.elim
  · by_cases hi : i ∈ ks
    · rw [if_pos hi] at h1; exact r'.own i a h1
    · rw [if_neg hi] at h1; exact h1.elim
theorem tot_fin {ks : List Nat} {S' : Nat → Addr → Prop} {a : Addr} (h : tot (fun k => if k ∈ ks then S' k else noS) a) : tot S' a := by
  obtain ⟨k, h⟩ := h
  by_cases hk : k ∈ ks
  · rw [if_pos hk] at h; exact ⟨k, h⟩
  · rw [if_neg hk] at h; exact h.elim
/-- a def as it stands behind the top, its defaults aside -/
structure FunX (K : PySem.W.Frag) (x qual : Str) (st : Stmt) (f : Addr) (fd : FuncData) : Prop where
  ex : ∃ (oc : Value) (od : Option Addr) (dV kV doc pm : Value) (an : Option Addr) (cdv ct : Value) (osl : Array (Option Value)),
    fd = PySem.W.fnOf x qual (defArgs st) (defBody st) (defScope st) dV kV doc pm an cdv ct ∧ K.lookup f = some ⟨oc, od, .func fd, osl⟩ ∧ PySem.W.codeIn K cdv qual = true
theorem fun_x {x qual : Str} {st : Stmt} {f : Addr} {fd : FuncData} (F : Fun K x qual st f fd) : FunX K x qual st f fd := by
  obtain ⟨oc, od, kV, doc, pm, an, cdv, ct, osl, h⟩ := F.ex
  exact ⟨⟨oc, od, .none, kV, doc, pm, an, cdv, ct, osl, h⟩⟩
theorem FunX.okX {x qual : Str} {st : Stmt} {f : Addr} {fd : FuncData} {N ps : List Str} {k : Nat} {sp : Sp} (F : FunX K x qual st f fd) (S : FnScope N ps (defScope st)) (len : ∀ vs H Q E, sp vs H Q E → vs.length = ps.length)
    (hbody : ∀ (cdv : Value) (A : Around) (outer : List PySem.Env) (s : Shared) (H : Hp) (vs : List V) (Q : VK) (E : XK), Room k (A.deeper (envOfC qual (defScope st) s.heap.objs.size f cdv)) → sp vs H Q E →
      ∃ t, PSs (cxOf (L2.CX P w) P w K mg base N qual (defScope st) f cdv A outer s H E) (defBody st) t ∧ t { nx := fun _ H' => Q .non H', rt := Q } (start N vs) H) : FnOk P w K mg base (L2.CX P w) (k + 1) f fd ps sp := by
  obtain ⟨oc, od, dV, kV, doc, pm, an, cdv, ct, osl, rfl, lk, hcd⟩ := F.ex
  exact fn_of lk hcd S len fun A outer s H vs Q E hr hsp => hbody cdv A outer s H vs Q E hr hsp
theorem den_core {N ps : List Str} {sc : Scope} {ks : List Nat} {g : M Fl} (Sc : FnScope N ps sc) {vs : List V} {H : Hp} {Q : VK} {E : XK} (h : spD K mg ps.length (mkF N.length ks g) vs H Q E) :
    tS K mg (fun cls d _ H => E cls d H) ks g { nx := fun _ H' => Q .non H', rt := Q } (L2.start N vs) H := by
  obtain ⟨hl, B, os, S, r, h⟩ := h
  have l2 : vs.length = os.length := by have := r.len; rwa [List.length_map, List.length_map] at this
  have hpl : ps.length ≤ N.length := by have := congrArg List.length Sc.pre; rw [List.length_take] at this; omega
  have hσ : ∀ k : Nat, k < vs.length → (L2.start N vs)[k]? = (vs.map some)[k]? := fun k hk => by
    unfold L2.start
    rw [List.getElem?_append_left (by rw [List.length_map]; exact hk)]
  have r0 : Rp K B H (L2.start N vs) (os.map some ++ List.replicate (N.length - os.length) none) S := by
    refine ⟨by unfold L2.start; rw [List.length_append, List.length_append, List.length_map, List.length_map, List.length_replicate, List.length_replicate]; omega, r.ex, fun i o ho => ?_, r.dis, r.own⟩
    by_cases hi : i < os.length
    · rw [List.getElem?_append_left (by rw [List.length_map]; exact hi)] at ho
      obtain ⟨v, a, b⟩ := r.rep i o ho
      exact ⟨v, by rw [hσ i (by omega)]; exact a, b⟩
    · rw [List.getElem?_append_right (by rw [List.length_map]; omega), List.length_map, List.getElem?_replicate] at ho
      split at ho <;> cases ho
  refine ⟨B, _, S, r0, ?_⟩
  unfold mkF at h
  cases q : g (os.map some ++ List.replicate (N.length - os.length) none) with
  | none => rw [q] at h; exact h.elim
  | some ro =>
    rw [q] at h
    cases ro with
    | ex x e' =>
      dsimp only at h
      cases qf : finO ks 0 os e' with
      | none => rw [qf] at h; exact h.elim
      | some os' =>
        rw [qf] at h
        intro C d fs σ' B' H' S' hC r' hd hx hdn k' f'
        obtain ⟨l3, r2⟩ := fin_rp r qf hσ r' k' f'.b
        exact (show RetP K mg B H (tot S) vs Q E (some (.ex x os')) from h) C d fs B' H' _ l3 hC r2 hd hx hdn (f'.imp (fun _ z => z) fun _ z => tot_fin z)
    | ok fl e' =>
      cases fl with
      | brk => exact h.elim
      | cnt => exact h.elim
      | next =>
        dsimp only at h
        cases qf : finO ks 0 os e' with
        | none => rw [qf] at h; exact h.elim
        | some os' =>
          rw [qf] at h
          intro σ' B' H' S' r' k' f'
          obtain ⟨l3, r2⟩ := fin_rp r qf hσ r' k' f'.b
          exact (show RetP K mg B H (tot S) vs Q E (some (.ok (.fr .non) os')) from h) .non B' H' _ noS l3 (.fr r2 .non) (f'.imp (fun _ z => z) fun _ z => z.elim (fun z => z.elim) tot_fin)
      | ret o =>
        dsimp only at h
        cases qf : finO ks 0 os e' with
        | none => rw [qf] at h; exact h.elim
        | some os' =>
          rw [qf] at h
          intro v σ' B' H' S' T vl k' f'
          obtain ⟨l3, r2⟩ := fin_rp r qf hσ vl.rp k' f'.b
          exact (show RetP K mg B H (tot S) vs Q E (some (.ok o os')) from h) v B' H' _ T l3 ⟨r2, vl.ro, vl.own, fun a ha z => vl.dj a ha (tot_fin z)⟩ (f'.imp (fun _ z => z) fun _ z => z.elim .inl fun z => .inr (tot_fin z))
/-- THE RULE of a def -/
theorem fn_den {x qual : Str} {st : Stmt} {f : Addr} {fd : FuncData} {N ps : List Str} {k : Nat} {ks : List Nat} {g : M Fl} (F : FunX K x qual st f fd) (Sc : FnScope N ps (defScope st))
    (hb : ∀ (cdv : Value) (A : Around) (outer : List PySem.Env) (s : Shared) (H : Hp) (E : XK), Room k (A.deeper (envOfC qual (defScope st) s.heap.objs.size f cdv)) →
      Takes (cxOf (L2.CX P w) P w K mg base N qual (defScope st) f cdv A outer s H E) (fun cls d _ H => E cls d H) →
      PassesOwn (model P w) (A.deeper (envOfC qual (defScope st) s.heap.objs.size f cdv)) (envOfC qual (defScope st) s.heap.objs.size f cdv) (cxOf (L2.CX P w) P w K mg base N qual (defScope st) f cdv A outer s H E).xe →
      PSs (cxOf (L2.CX P w) P w K mg base N qual (defScope st) f cdv A outer s H E) (defBody st) (tS K mg (fun cls d _ H => E cls d H) ks g)) :
    FnOk P w K mg base (L2.CX P w) (k + 1) f fd ps (spD K mg ps.length (mkF N.length ks g)) := by
  exact F.okX Sc (fun vs H Q E h => h.1) (fun cdv A outer s H vs Q E hr h => ⟨_, hb cdv A outer s H E hr (takes_of rfl rfl rfl rfl) (passes_of rfl), den_core Sc h⟩)
end

/-! ## 11. Data as the library has it -/
mutual
def D.py : D → PyData
  | .non => .none
  | .bl b => .bool b
  | .int i => .int i
  | .str s => .str s
  | .lst xs => .list (D.pys xs)
  | .tup xs => .tuple (D.pys xs)
  | .scr ns => .list (ns.map PyData.int)
  | .opq => .str ⟨#[1114112]⟩
  | .dct _ _ => .str ⟨#[1114112]⟩
  | .ins _ _ _ => .str ⟨#[1114112]⟩
def D.pys : List D → List PyData
  | [] => []
  | x :: xs => x.py :: D.pys xs
end
mutual
/-- all of it is known -/
def D.nx : D → Bool
  | .non => true
  | .bl _ => true
  | .int _ => true
  | .str _ => true
  | .lst xs => D.nxs xs
  | .tup xs => D.nxs xs
  | .scr _ => true
  | .opq => false
  | .dct _ _ => false
  | .ins _ _ _ => false
def D.nxs : List D → Bool
  | [] => true
  | x :: xs => D.nx x && D.nxs xs
end
mutual
theorem D.nx_of : ∀ {d : D}, d.py.canLay0 = true → d.nx = true
  | .non, _ => rfl
  | .bl _, _ => rfl
  | .int _, _ => rfl
  | .str _, _ => rfl
  | .lst xs, h => by rw [D.nx]; exact D.nxs_of (by rw [D.py] at h; exact h)
  | .tup xs, h => by rw [D.nx]; exact D.nxs_of (by rw [D.py] at h; exact h)
  | .scr _, _ => rfl
  | .opq, h => by
    have : PyData.canLay0 (.str ⟨#[1114112]⟩) = false := by decide +kernel
    rw [D.py, this] at h
    cases h
  | .dct _ _, h => by
    have : PyData.canLay0 (.str ⟨#[1114112]⟩) = false := by decide +kernel
    rw [D.py, this] at h
    cases h
  | .ins _ _ _, h => by
    have : PyData.canLay0 (.str ⟨#[1114112]⟩) = false := by decide +kernel
    rw [D.py, this] at h
    cases h
theorem D.nxs_of : ∀ {ds : List D}, PyData.canLayAll0 (D.pys ds) = true → D.nxs ds = true
  | [], _ => rfl
  | x :: xs, h => by
    rw [D.pys] at h
    have h' : (x.py.canLay0 && PyData.canLayAll0 (D.pys xs)) = true := h
    rw [Bool.and_eq_true] at h'
    rw [D.nxs, D.nx_of h'.1, D.nxs_of h'.2]; rfl
end
theorem D.pys_map : ∀ xs : List D, D.pys xs = xs.map D.py
  | [] => rfl
  | x :: xs => by rw [D.pys, List.map_cons, D.pys_map xs]
section
variable {K : PySem.W.Frag} {B H : Hp}
theorem dp_ints : ∀ ns : List Int, DpAll K H (ns.map V.int) (ns.map PyData.int)
  | [] => .nil
  | n :: ns => .cons (.int n) (dp_ints ns)
mutual
theorem Rep.dp : ∀ {v : V} {d : D}, Rep K H v d → d.nx = true → Dp K H v d.py
  | _, _, .non, _ => by rw [D.py]; exact .non
  | _, _, .bl b, _ => by rw [D.py]; exact .bl b
  | _, _, .int i, _ => by rw [D.py]; exact .int i
  | _, _, .str x, _ => by rw [D.py]; exact .str x
  | _, _, .lst h hs, n => by rw [D.py]; exact .lst (Evl.sq_of h) (RepL.dp hs (by rw [D.nx] at n; exact n))
  | _, _, .tup h hs, n => by rw [D.py]; exact .tup h.sq (RepL.dp hs (by rw [D.nx] at n; exact n))
  | _, _, .scr h, _ => by rw [D.py]; exact .lst h (dp_ints _)
  | _, _, .opq _, n => by rw [D.nx] at n; cases n
  | _, _, .dct _ _ _, n => by rw [D.nx] at n; cases n
  | _, _, .ins _ _ _ _, n => by rw [D.nx] at n; cases n
theorem RepL.dp : ∀ {vs : List V} {ds : List D}, RepL K H vs ds → D.nxs ds = true → DpAll K H vs (D.pys ds)
  | _, _, .nil, _ => by rw [D.pys]; exact .nil
  | _, _, .cons h hs, n => by
    rw [D.nxs, Bool.and_eq_true] at n
    rw [D.pys]; exact .cons (Rep.dp h n.1) (RepL.dp hs n.2)
end
end
def shp (d : D) : Bool := SeqAt.shaped d.py
theorem shp_nx {d : D} (h : shp d = true) : d.nx = true := D.nx_of (by unfold shp SeqAt.shaped at h; rw [Bool.and_eq_true] at h; exact h.1)
def D.eqv (a b : D) : Bool := PyData.eqv a.py b.py

/-! ## 12. Operations -/
@[reducible] def bO (b : Bool) : O := .fr (.bl b)
@[reducible] def iO (i : Int) : O := .fr (.int i)
@[reducible] def sO (s : Str) : O := .fr (.str s)
def mulOk (i j : Int) : Bool := decide (-(2 ^ 64) < i ∧ i < 2 ^ 64) || decide (-(2 ^ 64) < j ∧ j < 2 ^ 64)
def gAdd : List D → Option O
  | [.int i, .int j] => some (iO (i + j))
  | [.str a, .str b] => if a.length + b.length ≤ sizeLine then some (sO (a ++ b)) else none
  | [.lst a, .lst b] => if a.length + b.length ≤ sizeLine then some (.lst (a ++ b)) else none
  | [.tup a, .tup b] => if a.length + b.length ≤ sizeLine then some (.fr (.tup (a ++ b))) else none
  | _ => none
def gSub : List D → Option O
  | [.int i, .int j] => some (iO (i - j))
  | _ => none
def gMul : List D → Option O
  | [.int i, .int j] => if mulOk i j then some (iO (i * j)) else none
  | _ => none
def gDiv : List D → Option O
  | [.int i, .int j] => if j ≠ 0 ∧ j.natAbs < 1073741824 then some (iO (i.fdiv j)) else none
  | _ => none
def gMod : List D → Option O
  | [.int i, .int j] => if j ≠ 0 then some (iO (i.fmod j)) else none
  | _ => none
def gPow : List D → Option O
  | [.int i, .int j] => if 0 ≤ j ∧ j ≤ 1000000 ∧ i.natAbs < 2 ^ 64 then some (iO (i ^ j.toNat)) else none
  | _ => none
def gNeg : List D → Option O
  | [.int i] => some (iO (-i))
  | _ => none
def gEq : List D → Option O
  | [.int i, .int j] => some (bO (decide (i = j)))
  | [.str i, .str j] => some (bO (decide (i = j)))
  | [.bl i, .bl j] => some (bO (decide (i = j)))
  | [a, b] => if shp a && shp b then some (bO (D.eqv a b)) else none
  | _ => none
def gNe : List D → Option O
  | [.int i, .int j] => some (bO (!decide (i = j)))
  | [.str i, .str j] => some (bO (!decide (i = j)))
  | [.bl i, .bl j] => some (bO (!decide (i = j)))
  | [a, b] => if shp a && shp b then some (bO (!D.eqv a b)) else none
  | _ => none
/-- two that can be compared by order -/
def ordOk (a b : D) : Bool := a.nx && b.nx && W.alike a.py b.py && (match a with | .non => false | _ => true) && decide (min a.py.depth b.py.depth ≤ 64)
def gLt : List D → Option O
  | [.int i, .int j] => some (bO (decide (i < j)))
  | [a, b] => if ordOk a b then some (bO (W.dataLt a.py b.py)) else none
  | _ => none
def gGt : List D → Option O
  | [.int i, .int j] => some (bO (decide (j < i)))
  | [a, b] => if ordOk a b then some (bO (W.dataLt b.py a.py)) else none
  | _ => none
def gLe : List D → Option O
  | [.int i, .int j] => some (bO (decide (i ≤ j)))
  | [a, b] => if ordOk a b then some (bO (!W.dataLt b.py a.py)) else none
  | _ => none
def gGe : List D → Option O
  | [.int i, .int j] => some (bO (decide (j ≤ i)))
  | [a, b] => if ordOk a b then some (bO (!W.dataLt a.py b.py)) else none
  | _ => none
def gIsN : List D → Option O
  | [.non, .non] => some (bO true)
  | [.opq, .non] => none
  | [_, .non] => some (bO false)
  | [.bl a, .bl b] => some (bO (decide (a = b)))
  | _ => none
def gNotN : List D → Option O
  | [.non, .non] => some (bO false)
  | [.opq, .non] => none
  | [_, .non] => some (bO true)
  | [.bl a, .bl b] => some (bO (!decide (a = b)))
  | _ => none
def inStr (s z : Str) : Bool := match s.cps.toList with
  | [c] => decide (c ∈ z.cps.toList)
  | _ => !(Builtin.Str.occurrences z s 0 z.length 1).isEmpty
def inL (x : D) (ds : List D) : Bool := ds.any fun y => D.eqv y x
/-- a key of a dict -/
def keyD : D → Option L2.Key
  | .int i => some (.inl i)
  | .str s => some (.inr s)
  | _ => none
/-- what stands at a key -/
def getK : List L2.Key → List D → L2.Key → Option D
  | k :: ks, d :: ds, j => if k = j then some d else getK ks ds j
  | _, _, _ => none
def gIn : List D → Option O
  | [.str s, .str z] => some (bO (inStr s z))
  | [x, .lst ds] => if shp x && shp (.lst ds) then some (bO (inL x ds)) else none
  | [x, .tup ds] => if shp x && shp (.tup ds) then some (bO (inL x ds)) else none
  | [x, .dct ks xs] => (keyD x).map fun k => bO (getK ks xs k).isSome
  | _ => none
def gNotIn : List D → Option O
  | [.str s, .str z] => some (bO (!inStr s z))
  | [x, .lst ds] => if shp x && shp (.lst ds) then some (bO (!inL x ds)) else none
  | [x, .tup ds] => if shp x && shp (.tup ds) then some (bO (!inL x ds)) else none
  | [x, .dct ks xs] => (keyD x).map fun k => bO (!(getK ks xs k).isSome)
  | _ => none
def gIx : List D → Option O
  | [.lst ds, .int i] => (atI ds i).map .fr
  | [.tup ds, .int i] => (atI ds i).map .fr
  | [.scr ns, .int i] => (atI ns i).map iO
  | [.str z, .int i] => if z.length ≤ sizeLine then (atI z.cps.toList i).map fun c => sO ⟨#[c]⟩ else none
  | [.dct ks xs, x] => (keyD x).bind fun k => (getK ks xs k).map .fr
  | _ => none
def gLen : List D → Option O
  | [.lst ds] => some (iO ds.length)
  | [.tup ds] => some (iO ds.length)
  | [.scr ns] => some (iO ns.length)
  | [.str z] => if z.length ≤ sizeLine then some (iO z.length) else none
  | _ => none
def gInt : List D → Option O
  | [.int i] => some (iO i)
  | [.bl b] => some (iO (if b then 1 else 0))
  | [.str z] => if z.length ≤ 640 then (PySem.intText? z).map iO else none
  | _ => none
def gAbs : List D → Option O
  | [.int i] => some (iO (if i < 0 then -i else i))
  | _ => none
def gOrd : List D → Option O
  | [.str z] => if z.length = 1 then some (iO (z.cps.getD 0 0 : Nat)) else none
  | _ => none
def gList : List D → Option O
  | [.lst ds] => some (.lst ds)
  | [.tup ds] => some (.lst ds)
  | [.scr ns] => some (.lst (ns.map .int))
  | _ => none
def gTuple : List D → Option O
  | [.lst ds] => some (.fr (.tup ds))
  | [.tup ds] => some (.fr (.tup ds))
  | _ => none
def boolsD : List D → Option (List Bool)
  | [] => some []
  | .bl b :: ds => (boolsD ds).map (b :: ·)
  | _ => none
def intsD : List D → Option (List Int)
  | [] => some []
  | .int b :: ds => (intsD ds).map (b :: ·)
  | _ => none
def strsD : List D → Option (List Str)
  | [] => some []
  | .str b :: ds => (strsD ds).map (b :: ·)
  | _ => none
def gAll : List D → Option O
  | [.lst ds] => (boolsD ds).map fun bs => bO (bs.all id)
  | _ => none
def gAny : List D → Option O
  | [.lst ds] => (boolsD ds).map fun bs => bO (bs.any id)
  | _ => none
def gSum : List D → Option O
  | [.lst ds] => (intsD ds).map fun bs => iO bs.sum
  | _ => none
end Dn

namespace Dn
open PySem L2
open Evl (Ex)

/-! ## 13. The operations are sound -/
theorem Rd.dp {K : PySem.W.Frag} {B H : Hp} {v : V} {d : D} (h : Rd K B H v d) (hx : Ex B H) (n : d.nx = true) : Dp K H v d.py := (h.rep hx).dp n
theorem snd_or1 {K : PySem.W.Frag} {r r' : R2} {g : List D → Option O} (h : Snd2 K r g) : Snd2 K (fun x y H Q => r x y H Q ∨ r' x y H Q) g := fun B H x y a b o h1 h2 h3 h4 Q q => .inl (h B H x y a b o h1 h2 h3 h4 Q q)

section
variable {X : Cx}
def rAddD (K : PySem.W.Frag) : R2 := fun x y H Q => (rI0 fun i j => .int (i + j)) x y H Q ∨ (fun x y H Q => ∃ i j, x = .str i ∧ y = .str j ∧ i.length + j.length ≤ sizeLine ∧ Q (.str (i ++ j)) H) x y H Q ∨ rCat x y H Q ∨ rCatA K x y H Q
theorem o_add : OpR X (binaryOp .Add) (rAddD X.K) := op_add.or (op_add_str.or (op_cat.or op_catA))
theorem n_add {K : PySem.W.Frag} : Snd2 K (rAddD K) gAdd := fun B H x y a b o hx ha hb hg Q q => by
  cases a <;> cases b <;> simp only [gAdd] at hg <;> (try cases hg)
  · cases ha; cases hb
    exact .inl ⟨_, _, rfl, rfl, q.fr hx (.int _)⟩
  · split at hg
    · cases hg; cases ha; cases hb
      exact .inr (.inl ⟨_, _, rfl, rfl, by assumption, q.fr hx (.str _)⟩)
    · cases hg
  · split at hg
    · rename_i hl
      cases hg
      obtain ⟨p, xs, rfl, h1, h2⟩ := ha
      obtain ⟨p', ys, rfl, h3, h4⟩ := hb
      exact .inr (.inr (.inl ⟨_, _, _, _, rfl, rfl, h1, h3, by rw [h2.length, h4.length]; exact hl, fun l hl => q.newL hx (h2.append h4) hl⟩))
    · cases hg
  · split at hg
    · rename_i hl
      cases hg
      cases ha with
      | tup h1 h2 =>
        cases hb with
        | tup h3 h4 =>
          refine .inr (.inr (.inr ⟨_, _, _, _, rfl, rfl, Evl.ex_t hx h1.sq, Evl.ex_t hx h3.sq, by rw [h2.length, h4.length]; exact hl, fun e => ?_, fun e e2 => ?_, fun e e2 p hp => ?_⟩))
          · subst e; cases h2
            exact q.fr hx (.tup h3 h4)
          · subst e2; cases h4
            rw [List.append_nil] at q
            exact q.fr hx (.tup h1 h2)
          · exact q.newT hx (h2.append h4) hp
    · cases hg
theorem n_sub {K : PySem.W.Frag} : Snd2 K (rI0 fun i j => .int (i - j)) gSub := fun B H x y a b o hx ha hb hg Q q => by
  cases a <;> cases b <;> simp only [gSub] at hg <;> (try cases hg)
  cases ha; cases hb
  exact ⟨_, _, rfl, rfl, q.fr hx (.int _)⟩
theorem n_mul {K : PySem.W.Frag} : Snd2 K (rI CMul fun i j => .int (i * j)) gMul := fun B H x y a b o hx ha hb hg Q q => by
  cases a <;> cases b <;> simp only [gMul] at hg <;> (try cases hg)
  split at hg
  · rename_i hc
    cases hg; cases ha; cases hb
    refine ⟨_, _, rfl, rfl, ?_, q.fr hx (.int _)⟩
    unfold mulOk at hc
    rw [Bool.or_eq_true] at hc
    exact hc.elim (fun z => .inl (of_decide_eq_true z)) fun z => .inr (of_decide_eq_true z)
  · cases hg
theorem n_div {K : PySem.W.Frag} : Snd2 K (rI CDivN fun i j => .int (i.fdiv j)) gDiv := fun B H x y a b o hx ha hb hg Q q => by
  cases a <;> cases b <;> simp only [gDiv] at hg <;> (try cases hg)
  split at hg
  · rename_i hc
    cases hg; cases ha; cases hb
    exact ⟨_, _, rfl, rfl, hc, q.fr hx (.int _)⟩
  · cases hg
theorem n_mod {K : PySem.W.Frag} : Snd2 K (rI (fun _ j => j ≠ 0) fun i j => .int (i.fmod j)) gMod := fun B H x y a b o hx ha hb hg Q q => by
  cases a <;> cases b <;> simp only [gMod] at hg <;> (try cases hg)
  split at hg
  · rename_i hc
    cases hg; cases ha; cases hb
    exact ⟨_, _, rfl, rfl, hc, q.fr hx (.int _)⟩
  · cases hg
theorem n_pow {K : PySem.W.Frag} : Snd2 K (rI CPow fun i j => .int (i ^ j.toNat)) gPow := fun B H x y a b o hx ha hb hg Q q => by
  cases a <;> cases b <;> simp only [gPow] at hg <;> (try cases hg)
  split at hg
  · rename_i hc
    cases hg; cases ha; cases hb
    exact ⟨_, _, rfl, rfl, hc, q.fr hx (.int _)⟩
  · cases hg
theorem n_neg {K : PySem.W.Frag} : Snd1 K (rU fun i => .int (-i)) gNeg := fun B H x a o hx ha hg Q q => by
  cases a <;> simp only [gNeg] at hg <;> (try cases hg)
  cases ha
  exact ⟨_, rfl, q.fr hx (.int _)⟩

/-! ### == and != -/
def rEqO (K : PySem.W.Frag) : R2 := fun x y H Q => rEq x y H Q ∨ rEqD K x y H Q
def rNeO (K : PySem.W.Frag) : R2 := fun x y H Q => rNe x y H Q ∨ rNeD K x y H Q
theorem o_eq (hu : X.A.units + 64 < cLine) : OpR X (compareOp .Eq) (rEqO X.K) := op_eq.or (op_eqD hu)
theorem o_ne (hu : X.A.units + 64 < cLine) : OpR X (compareOp .NotEq) (rNeO X.K) := op_ne.or (op_neD hu)
theorem eq_gen {a b : D} {o : O} (hg : gEq [a, b] = some o) : (∃ i j, a = .int i ∧ b = .int j ∧ o = bO (decide (i = j))) ∨ (∃ i j, a = .str i ∧ b = .str j ∧ o = bO (decide (i = j))) ∨ (∃ i j, a = .bl i ∧ b = .bl j ∧ o = bO (decide (i = j))) ∨ (shp a = true ∧ shp b = true ∧ o = bO (D.eqv a b)) := by
  unfold gEq at hg
  split at hg
  · rename_i h; cases h; cases hg; exact .inl ⟨_, _, rfl, rfl, rfl⟩
  · rename_i h; cases h; cases hg; exact .inr (.inl ⟨_, _, rfl, rfl, rfl⟩)
  · rename_i h; cases h; cases hg; exact .inr (.inr (.inl ⟨_, _, rfl, rfl, rfl⟩))
  · rename_i h
    cases h
    split at hg
    · rename_i hs
      cases hg
      rw [Bool.and_eq_true] at hs
      exact .inr (.inr (.inr ⟨hs.1, hs.2, rfl⟩))
    · cases hg
  · cases hg
theorem ne_gen {a b : D} {o : O} (hg : gNe [a, b] = some o) : (∃ i j, a = .int i ∧ b = .int j ∧ o = bO (!decide (i = j))) ∨ (∃ i j, a = .str i ∧ b = .str j ∧ o = bO (!decide (i = j))) ∨ (∃ i j, a = .bl i ∧ b = .bl j ∧ o = bO (!decide (i = j))) ∨ (shp a = true ∧ shp b = true ∧ o = bO (!D.eqv a b)) := by
  unfold gNe at hg
  split at hg
  · rename_i h; cases h; cases hg; exact .inl ⟨_, _, rfl, rfl, rfl⟩
  · rename_i h; cases h; cases hg; exact .inr (.inl ⟨_, _, rfl, rfl, rfl⟩)
  · rename_i h; cases h; cases hg; exact .inr (.inr (.inl ⟨_, _, rfl, rfl, rfl⟩))
  · rename_i h
    cases h
    split at hg
    · rename_i hs
      cases hg
      rw [Bool.and_eq_true] at hs
      exact .inr (.inr (.inr ⟨hs.1, hs.2, rfl⟩))
    · cases hg
  · cases hg
theorem dec_vi {i j : Int} : decide (V.int i = V.int j) = decide (i = j) := by simp
theorem dec_vs {i j : Str} : decide (V.str i = V.str j) = decide (i = j) := by simp
theorem dec_vb {i j : Bool} : decide (V.bl i = V.bl j) = decide (i = j) := by simp
theorem n_eq {K : PySem.W.Frag} : Snd2 K (rEqO K) gEq := fun B H x y a b o hx ha hb hg Q q => by
  rcases eq_gen hg with ⟨i, j, rfl, rfl, rfl⟩ | ⟨i, j, rfl, rfl, rfl⟩ | ⟨i, j, rfl, rfl, rfl⟩ | ⟨h1, h2, rfl⟩
  · cases ha; cases hb; exact .inl ⟨rfl, by rw [dec_vi]; exact q.fr hx (.bl _)⟩
  · cases ha; cases hb; exact .inl ⟨rfl, by rw [dec_vs]; exact q.fr hx (.bl _)⟩
  · cases ha; cases hb; exact .inl ⟨rfl, by rw [dec_vb]; exact q.fr hx (.bl _)⟩
  · exact .inr ⟨_, _, ha.dp hx (shp_nx h1), hb.dp hx (shp_nx h2), h1, h2, q.fr hx (.bl _)⟩
theorem n_ne {K : PySem.W.Frag} : Snd2 K (rNeO K) gNe := fun B H x y a b o hx ha hb hg Q q => by
  rcases ne_gen hg with ⟨i, j, rfl, rfl, rfl⟩ | ⟨i, j, rfl, rfl, rfl⟩ | ⟨i, j, rfl, rfl, rfl⟩ | ⟨h1, h2, rfl⟩
  · cases ha; cases hb; exact .inl ⟨rfl, by rw [dec_vi]; exact q.fr hx (.bl _)⟩
  · cases ha; cases hb; exact .inl ⟨rfl, by rw [dec_vs]; exact q.fr hx (.bl _)⟩
  · cases ha; cases hb; exact .inl ⟨rfl, by rw [dec_vb]; exact q.fr hx (.bl _)⟩
  · exact .inr ⟨_, _, ha.dp hx (shp_nx h1), hb.dp hx (shp_nx h2), h1, h2, q.fr hx (.bl _)⟩

/-! ### order -/
def rOrd (K : PySem.W.Frag) (f : PyData → PyData → Bool) : R2 := fun x y H Q => ∃ d e, Dp K H x d ∧ Dp K H y e ∧ W.alike d e = true ∧ d ≠ .none ∧ min d.depth e.depth ≤ 64 ∧ Q (.bl (f d e)) H
theorem o_ltD (hu : X.A.units + 64 < cLine) : OpR X (compareOp .Lt) (rOrd X.K W.dataLt) := by
  intro pins s σ H x y v u Q I rx ry h
  obtain ⟨d, e, hd, he, al, dn, dp, q⟩ := h
  obtain ⟨as, r1⟩ := Dp.reads I d x v hd rx
  obtain ⟨bs, r2⟩ := Dp.reads I e y u he ry
  exact W.lt_data r1 r2 al dn (by omega) ⟨.bl _, H, I, rfl, q⟩
theorem o_gtD (hu : X.A.units + 64 < cLine) : OpR X (compareOp .Gt) (rOrd X.K fun d e => W.dataLt e d) := by
  intro pins s σ H x y v u Q I rx ry h
  obtain ⟨d, e, hd, he, al, dn, dp, q⟩ := h
  obtain ⟨as, r1⟩ := Dp.reads I d x v hd rx
  obtain ⟨bs, r2⟩ := Dp.reads I e y u he ry
  exact W.gt_data r1 r2 al dn (by omega) ⟨.bl _, H, I, rfl, q⟩
theorem o_leD (hu : X.A.units + 64 < cLine) : OpR X (compareOp .LtE) (rOrd X.K fun d e => !W.dataLt e d) := by
  intro pins s σ H x y v u Q I rx ry h
  obtain ⟨d, e, hd, he, al, dn, dp, q⟩ := h
  obtain ⟨as, r1⟩ := Dp.reads I d x v hd rx
  obtain ⟨bs, r2⟩ := Dp.reads I e y u he ry
  exact W.le_data r1 r2 al dn (by omega) ⟨.bl _, H, I, rfl, q⟩
theorem o_geD (hu : X.A.units + 64 < cLine) : OpR X (compareOp .GtE) (rOrd X.K fun d e => !W.dataLt d e) := by
  intro pins s σ H x y v u Q I rx ry h
  obtain ⟨d, e, hd, he, al, dn, dp, q⟩ := h
  obtain ⟨as, r1⟩ := Dp.reads I d x v hd rx
  obtain ⟨bs, r2⟩ := Dp.reads I e y u he ry
  exact W.ge_data r1 r2 al dn (by omega) ⟨.bl _, H, I, rfl, q⟩
def rLtO (K : PySem.W.Frag) : R2 := fun x y H Q => (rI0 fun i j => .bl (decide (i < j))) x y H Q ∨ rOrd K W.dataLt x y H Q
def rGtO (K : PySem.W.Frag) : R2 := fun x y H Q => (rI0 fun i j => .bl (decide (j < i))) x y H Q ∨ rOrd K (fun d e => W.dataLt e d) x y H Q
def rLeO (K : PySem.W.Frag) : R2 := fun x y H Q => (rI0 fun i j => .bl (decide (i ≤ j))) x y H Q ∨ rOrd K (fun d e => !W.dataLt e d) x y H Q
def rGeO (K : PySem.W.Frag) : R2 := fun x y H Q => (rI0 fun i j => .bl (decide (j ≤ i))) x y H Q ∨ rOrd K (fun d e => !W.dataLt d e) x y H Q
theorem o_lt (hu : X.A.units + 64 < cLine) : OpR X (compareOp .Lt) (rLtO X.K) := op_lt.or (o_ltD hu)
theorem o_gt (hu : X.A.units + 64 < cLine) : OpR X (compareOp .Gt) (rGtO X.K) := op_gt.or (o_gtD hu)
theorem o_le (hu : X.A.units + 64 < cLine) : OpR X (compareOp .LtE) (rLeO X.K) := op_le.or (o_leD hu)
theorem o_ge (hu : X.A.units + 64 < cLine) : OpR X (compareOp .GtE) (rGeO X.K) := op_ge.or (o_geD hu)
theorem ord_of {a b : D} (h : ordOk a b = true) : W.alike a.py b.py = true ∧ a.py ≠ .none ∧ min a.py.depth b.py.depth ≤ 64 ∧ a.nx = true ∧ b.nx = true := by
  unfold ordOk at h
  rw [Bool.and_eq_true, Bool.and_eq_true, Bool.and_eq_true, Bool.and_eq_true] at h
  obtain ⟨⟨⟨⟨n1, n2⟩, h1⟩, h2⟩, h3⟩ := h
  refine ⟨h1, fun z => ?_, of_decide_eq_true h3, n1, n2⟩
  clear h3 h1 n1 n2
  cases a <;> (try rw [D.py] at z) <;> (first | cases z | skip)
  exact absurd h2 (by decide)
theorem n_lt {K : PySem.W.Frag} : Snd2 K (rLtO K) gLt := fun B H x y a b o hx ha hb hg Q q => by
  unfold gLt at hg
  split at hg
  · rename_i h; cases h; cases hg; cases ha; cases hb
    exact .inl ⟨_, _, rfl, rfl, q.fr hx (.bl _)⟩
  · rename_i h; cases h
    split at hg
    · rename_i hs
      cases hg
      obtain ⟨h1, h2, h3, h4, h5⟩ := ord_of hs
      exact .inr ⟨_, _, ha.dp hx h4, hb.dp hx h5, h1, h2, h3, q.fr hx (.bl _)⟩
    · cases hg
  · cases hg
theorem n_gt {K : PySem.W.Frag} : Snd2 K (rGtO K) gGt := fun B H x y a b o hx ha hb hg Q q => by
  unfold gGt at hg
  split at hg
  · rename_i h; cases h; cases hg; cases ha; cases hb
    exact .inl ⟨_, _, rfl, rfl, q.fr hx (.bl _)⟩
  · rename_i h; cases h
    split at hg
    · rename_i hs
      cases hg
      obtain ⟨h1, h2, h3, h4, h5⟩ := ord_of hs
      exact .inr ⟨_, _, ha.dp hx h4, hb.dp hx h5, h1, h2, h3, q.fr hx (.bl _)⟩
    · cases hg
  · cases hg
theorem n_le {K : PySem.W.Frag} : Snd2 K (rLeO K) gLe := fun B H x y a b o hx ha hb hg Q q => by
  unfold gLe at hg
  split at hg
  · rename_i h; cases h; cases hg; cases ha; cases hb
    exact .inl ⟨_, _, rfl, rfl, q.fr hx (.bl _)⟩
  · rename_i h; cases h
    split at hg
    · rename_i hs
      cases hg
      obtain ⟨h1, h2, h3, h4, h5⟩ := ord_of hs
      exact .inr ⟨_, _, ha.dp hx h4, hb.dp hx h5, h1, h2, h3, q.fr hx (.bl _)⟩
    · cases hg
  · cases hg
theorem n_ge {K : PySem.W.Frag} : Snd2 K (rGeO K) gGe := fun B H x y a b o hx ha hb hg Q q => by
  unfold gGe at hg
  split at hg
  · rename_i h; cases h; cases hg; cases ha; cases hb
    exact .inl ⟨_, _, rfl, rfl, q.fr hx (.bl _)⟩
  · rename_i h; cases h
    split at hg
    · rename_i hs
      cases hg
      obtain ⟨h1, h2, h3, h4, h5⟩ := ord_of hs
      exact .inr ⟨_, _, ha.dp hx h4, hb.dp hx h5, h1, h2, h3, q.fr hx (.bl _)⟩
    · cases hg
  · cases hg

/-! ### is, is not (None, True, False) -/
def rIsO : R2 := fun x y H Q => (fun x y H Q => y = .non ∧ Q (.bl (decide (x = .non))) H) x y H Q ∨ rIsB x y H Q
def rNotO : R2 := fun x y H Q => (fun x y H Q => y = .non ∧ Q (.bl (!decide (x = .non))) H) x y H Q ∨ rNotB x y H Q
theorem o_is : OpR X (compareOp .Is) rIsO := op_isN.or op_isBl
theorem o_isnot : OpR X (compareOp .IsNot) rNotO := op_notN.or op_notBl
theorem rd_non {K : PySem.W.Frag} {B H : Hp} {v : V} {d : D} (h : Rd K B H v d) (hd : d ≠ .opq) : (d = .non ∧ v = .non) ∨ (d ≠ .non ∧ v ≠ .non) := by
  cases d with
  | non => cases h; exact .inl ⟨rfl, rfl⟩
  | lst ds => obtain ⟨a, xs, rfl, _⟩ := h; exact .inr ⟨(by intro z; cases z), (by intro z; cases z)⟩
  | bl b => cases h; exact .inr ⟨(by intro z; cases z), (by intro z; cases z)⟩
  | int b => cases h; exact .inr ⟨(by intro z; cases z), (by intro z; cases z)⟩
  | str b => cases h; exact .inr ⟨(by intro z; cases z), (by intro z; cases z)⟩
  | tup b => cases h; exact .inr ⟨(by intro z; cases z), (by intro z; cases z)⟩
  | scr b => cases h; exact .inr ⟨(by intro z; cases z), (by intro z; cases z)⟩
  | opq => exact absurd rfl hd
  | dct ks ds => obtain ⟨a, kv, rfl, _⟩ := h; exact .inr ⟨(by intro z; cases z), (by intro z; cases z)⟩
  | ins c ns ds => obtain ⟨a, C, dx, fs, rfl, _⟩ := h; exact .inr ⟨(by intro z; cases z), (by intro z; cases z)⟩
theorem n_is {K : PySem.W.Frag} : Snd2 K rIsO gIsN := fun B H x y a b o hx ha hb hg Q q => by
  unfold gIsN at hg
  split at hg
  · rename_i h; cases h; cases hg; cases ha; cases hb
    exact .inl ⟨rfl, q.fr hx (.bl _)⟩
  · cases hg
  · rename_i h1 h2 h; cases h; cases hg; cases hb
    rcases rd_non ha (fun z => by subst z; exact h2 rfl) with ⟨e, _⟩ | ⟨_, e⟩
    · exact absurd e (fun z => by subst z; exact h1 rfl)
    · exact .inl ⟨rfl, by rw [decide_eq_false e]; exact q.fr hx (.bl _)⟩
  · rename_i h; cases h; cases hg; cases ha; cases hb
    exact .inr ⟨_, _, rfl, rfl, q.fr hx (.bl _)⟩
  · cases hg
theorem n_isnot {K : PySem.W.Frag} : Snd2 K rNotO gNotN := fun B H x y a b o hx ha hb hg Q q => by
  unfold gNotN at hg
  split at hg
  · rename_i h; cases h; cases hg; cases ha; cases hb
    exact .inl ⟨rfl, q.fr hx (.bl _)⟩
  · cases hg
  · rename_i h1 h2 h; cases h; cases hg; cases hb
    rcases rd_non ha (fun z => by subst z; exact h2 rfl) with ⟨e, _⟩ | ⟨_, e⟩
    · exact absurd e (fun z => by subst z; exact h1 rfl)
    · exact .inl ⟨rfl, by rw [decide_eq_false e]; exact q.fr hx (.bl _)⟩
  · rename_i h; cases h; cases hg; cases ha; cases hb
    exact .inr ⟨_, _, rfl, rfl, q.fr hx (.bl _)⟩
  · cases hg

/-! ### in, not in -/
def rInT (K : PySem.W.Frag) (neg : Bool) : R2 := fun x y H Q => ∃ d ds, Dp K H x d ∧ Dp K H y (.tuple ds) ∧ SeqAt.shaped d = true ∧ SeqAt.shaped (.tuple ds) = true ∧ Q (.bl (if neg then !(ds.any fun z => PyData.eqv z d) else ds.any fun z => PyData.eqv z d)) H
theorem o_inT (hu : X.A.units + 65 < cLine) : OpR X (compareOp .In) (rInT X.K false) := by
  intro pins s σ H x y v u Q I rx ry h
  obtain ⟨d, ds, hd, he, sd, se, q⟩ := h
  obtain ⟨as, r1⟩ := Dp.reads I d x v hd rx
  obtain ⟨bs, r2⟩ := Dp.reads I (.tuple ds) y u he ry
  exact SeqAt.in_tuple_reads r2 r1 (SeqAt.canLay_of_shaped se) (SeqAt.canLay_of_shaped sd) (PyProof.Rows.room_in_shaped sd hu) ⟨.bl _, H, I, rfl, q⟩
theorem o_notInT (hu : X.A.units + 65 < cLine) : OpR X (compareOp .NotIn) (rInT X.K true) := by
  intro pins s σ H x y v u Q I rx ry h
  obtain ⟨d, ds, hd, he, sd, se, q⟩ := h
  obtain ⟨as, r1⟩ := Dp.reads I d x v hd rx
  obtain ⟨bs, r2⟩ := Dp.reads I (.tuple ds) y u he ry
  exact SeqAt.notIn_tuple_reads r2 r1 (SeqAt.canLay_of_shaped se) (SeqAt.canLay_of_shaped sd) (PyProof.Rows.room_in_shaped sd hu) ⟨.bl _, H, I, rfl, q⟩
theorem keyD_v {K : PySem.W.Frag} {B H : Hp} {v : V} {d : D} {k : L2.Key} (h : keyD d = some k) (r : Rd K B H v d) : v = kV k := by
  cases d with
  | int i => cases h; cases r; rfl
  | str s => cases h; cases r; rfl
  | _ => cases h
theorem getK_val {K : PySem.W.Frag} {B : Hp} {k : L2.Key} : ∀ {kv : List (L2.Key × V)} {ks : List L2.Key} {ds : List D}, kv.map (·.1) = ks → RepL K B (kv.map (·.2)) ds → (getK ks ds k).isSome = (valV kv k).isSome
  | [], [], _, _, _ => by cases ‹List D› <;> rfl
  | p :: kv, [], _, h, _ => by cases h
  | [], _ :: _, _, h, _ => by cases h
  | p :: kv, j :: ks, d :: ds, h, hr => by
    rw [List.map_cons] at h hr
    injection h with h1 h2
    cases hr with
    | cons _ hr =>
      unfold getK
      by_cases e : j = k
      · rw [if_pos e, valV_pos (h1.trans e)]; rfl
      · rw [if_neg e, valV_neg (fun z => e (h1.symm.trans z))]
        exact getK_val h2 hr
  | p :: kv, j :: ks, [], _, hr => by cases hr
theorem getK_rep {K : PySem.W.Frag} {B : Hp} {k : L2.Key} {d : D} : ∀ {kv : List (L2.Key × V)} {ks : List L2.Key} {ds : List D}, kv.map (·.1) = ks → RepL K B (kv.map (·.2)) ds → getK ks ds k = some d → ∃ v, valV kv k = some v ∧ Rep K B v d
  | [], [], ds, _, _, e => by cases ds <;> cases e
  | p :: kv, [], _, h, _, _ => by cases h
  | [], _ :: _, _, h, _, _ => by cases h
  | p :: kv, j :: ks, d' :: ds, h, hr, e => by
    rw [List.map_cons] at h hr
    injection h with h1 h2
    cases hr with
    | cons hd hr =>
      unfold getK at e
      by_cases ej : j = k
      · rw [if_pos ej] at e
        cases e
        exact ⟨_, valV_pos (h1.trans ej), hd⟩
      · rw [if_neg ej] at e
        obtain ⟨v, e1, e2⟩ := getK_rep h2 hr e
        exact ⟨v, by rw [valV_neg (fun z => ej (h1.symm.trans z))]; exact e1, e2⟩
  | p :: kv, j :: ks, [], _, hr, _ => by cases hr
def rDIn (neg : Bool) : R2 := fun x y H Q => ∃ p kv k, y = .ref p ∧ x = kV k ∧ H p = some (.dK kv) ∧ Q (.bl (if neg then !(valV kv k).isSome else (valV kv k).isSome)) H
theorem o_dIn (hu : X.A.units + 1 < cLine) : OpR X (compareOp .In) (rDIn false) := by
  intro pins s σ H x y v u Q I rx ry h
  obtain ⟨p, kv, k, rfl, rfl, hp, q⟩ := h
  cases ry
  exact d_in hu I (DGet.k hp) rx fun s' I' => ⟨.bl _, H, I', rfl, q⟩
theorem o_dNotIn (hu : X.A.units + 1 < cLine) : OpR X (compareOp .NotIn) (rDIn true) := by
  intro pins s σ H x y v u Q I rx ry h
  obtain ⟨p, kv, k, rfl, rfl, hp, q⟩ := h
  cases ry
  exact d_notIn hu I (DGet.k hp) rx fun s' I' => ⟨.bl _, H, I', rfl, q⟩
def rInO (K : PySem.W.Frag) : R2 := fun x y H Q => (fun x y H Q => ∃ (c : Nat) (z : Str), x = .str ⟨#[c]⟩ ∧ y = .str z ∧ Q (.bl (decide (c ∈ z.cps.toList))) H) x y H Q ∨ (fun x y H Q => ∃ i j, x = .str i ∧ y = .str j ∧ Q (.bl (!(Builtin.Str.occurrences j i 0 j.length 1).isEmpty)) H) x y H Q ∨ rInD K x y H Q ∨ rInT K false x y H Q ∨ rDIn false x y H Q
def rNotInO (K : PySem.W.Frag) : R2 := fun x y H Q => (fun x y H Q => ∃ (c : Nat) (z : Str), x = .str ⟨#[c]⟩ ∧ y = .str z ∧ Q (.bl (!decide (c ∈ z.cps.toList))) H) x y H Q ∨ (fun x y H Q => ∃ i j, x = .str i ∧ y = .str j ∧ Q (.bl (!(!(Builtin.Str.occurrences j i 0 j.length 1).isEmpty))) H) x y H Q ∨ rNotInD K x y H Q ∨ rInT K true x y H Q ∨ rDIn true x y H Q
theorem o_in (hu : X.A.units + 65 < cLine) : OpR X (compareOp .In) (rInO X.K) := op_in_sign.or (op_in_str.or ((op_inD hu).or ((o_inT hu).or (o_dIn (by omega)))))
theorem o_notin (hu : X.A.units + 65 < cLine) : OpR X (compareOp .NotIn) (rNotInO X.K) := op_notIn_sign.or (op_notin_str.or ((op_notInD hu).or ((o_notInT hu).or (o_dNotIn (by omega)))))
theorem any_pys (x : D) (ds : List D) : ((D.pys ds).any fun z => PyData.eqv z x.py) = inL x ds := by
  rw [D.pys_map, List.any_map]
  rfl
theorem str_one {s : Str} {c : Nat} (h : s.cps.toList = [c]) : s = ⟨#[c]⟩ := by
  cases s with
  | mk cps =>
    have : cps = #[c] := by
      apply Array.ext'
      simpa using h
    rw [this]
theorem n_in {K : PySem.W.Frag} : Snd2 K (rInO K) gIn := fun B H x y a b o hx ha hb hg Q q => by
  unfold gIn at hg
  split at hg
  · rename_i s z h; cases h; cases hg; cases ha; cases hb
    unfold inStr at q
    split at q
    · rename_i c hc
      rw [str_one hc]
      exact .inl ⟨_, _, rfl, rfl, q.fr hx (.bl _)⟩
    · exact .inr (.inl ⟨_, _, rfl, rfl, q.fr hx (.bl _)⟩)
  · rename_i h; cases h
    split at hg
    · rename_i hs
      cases hg
      rw [Bool.and_eq_true] at hs
      refine .inr (.inr (.inl ⟨_, _, ha.dp hx (shp_nx hs.1), by have := hb.dp hx (shp_nx hs.2); rw [D.py] at this; exact this, hs.1, by have := hs.2; unfold shp at this; rw [D.py] at this; exact this, ?_⟩))
      rw [any_pys]
      exact q.fr hx (.bl _)
    · cases hg
  · rename_i h; cases h
    split at hg
    · rename_i hs
      cases hg
      rw [Bool.and_eq_true] at hs
      refine .inr (.inr (.inr (.inl ⟨_, _, ha.dp hx (shp_nx hs.1), by have := hb.dp hx (shp_nx hs.2); rw [D.py] at this; exact this, hs.1, by have := hs.2; unfold shp at this; rw [D.py] at this; exact this, ?_⟩)))
      rw [any_pys]
      exact q.fr hx (.bl _)
    · cases hg
  · rename_i h; cases h
    obtain ⟨k, hk, rfl⟩ := Option.map_eq_some_iff.mp hg
    obtain ⟨p, kv, rfl, h1, h2, h3⟩ := hb
    exact .inr (.inr (.inr (.inr ⟨p, kv, k, rfl, keyD_v hk ha, h1, by rw [← getK_val h2 h3]; exact q.fr hx (.bl _)⟩)))
  · cases hg
theorem n_notin {K : PySem.W.Frag} : Snd2 K (rNotInO K) gNotIn := fun B H x y a b o hx ha hb hg Q q => by
  unfold gNotIn at hg
  split at hg
  · rename_i s z h; cases h; cases hg; cases ha; cases hb
    unfold inStr at q
    split at q
    · rename_i c hc
      rw [str_one hc]
      exact .inl ⟨_, _, rfl, rfl, q.fr hx (.bl _)⟩
    · exact .inr (.inl ⟨_, _, rfl, rfl, q.fr hx (.bl _)⟩)
  · rename_i h; cases h
    split at hg
    · rename_i hs
      cases hg
      rw [Bool.and_eq_true] at hs
      refine .inr (.inr (.inl ⟨_, _, ha.dp hx (shp_nx hs.1), by have := hb.dp hx (shp_nx hs.2); rw [D.py] at this; exact this, hs.1, by have := hs.2; unfold shp at this; rw [D.py] at this; exact this, ?_⟩))
      rw [any_pys]
      exact q.fr hx (.bl _)
    · cases hg
  · rename_i h; cases h
    split at hg
    · rename_i hs
      cases hg
      rw [Bool.and_eq_true] at hs
      refine .inr (.inr (.inr (.inl ⟨_, _, ha.dp hx (shp_nx hs.1), by have := hb.dp hx (shp_nx hs.2); rw [D.py] at this; exact this, hs.1, by have := hs.2; unfold shp at this; rw [D.py] at this; exact this, ?_⟩)))
      rw [any_pys]
      exact q.fr hx (.bl _)
    · cases hg
  · rename_i h; cases h
    obtain ⟨k, hk, rfl⟩ := Option.map_eq_some_iff.mp hg
    obtain ⟨p, kv, rfl, h1, h2, h3⟩ := hb
    exact .inr (.inr (.inr (.inr ⟨p, kv, k, rfl, keyD_v hk ha, h1, by rw [← getK_val h2 h3]; exact q.fr hx (.bl _)⟩)))
  · cases hg

/-! ### subscripts -/
theorem at_rep {K : PySem.W.Frag} {B : Hp} {xs : List V} {ds : List D} {i : Int} {d : D} (h : RepL K B xs ds) (e : atI ds i = some d) : ∃ v, atI xs i = some v ∧ Rep K B v d := by
  unfold atI at e ⊢
  rw [h.length]
  cases q : ixN ds.length i with
  | none => rw [q] at e; cases e
  | some j =>
    rw [q] at e
    exact h.get e
theorem at_int {ns : List Int} {i : Int} {d : Int} (e : atI ns i = some d) : atI (ns.map V.int) i = some (.int d) := by
  unfold atI at e ⊢
  rw [List.length_map]
  cases q : ixN ns.length i with
  | none => rw [q] at e; cases e
  | some j =>
    rw [q] at e
    have e' : ns[j]? = some d := e
    show (ns.map V.int)[j]? = some (V.int d)
    rw [List.getElem?_map, e']
    rfl
/-- d[k], there -/
def rIxDk : R2 := fun x y H Q => ∃ p kv k v, x = .ref p ∧ y = kV k ∧ H p = some (.dK kv) ∧ valV kv k = some v ∧ Q v H
theorem ix_dk (hu : X.A.units + 1 < cLine) : IxR X rIxDk := by
  intro value slice pins s σ H x y v u Q I rx ry h hs
  obtain ⟨p, kv, k, z, rfl, rfl, hp, hv, q⟩ := h
  cases rx
  have g : DGet H p (kV k) (some z) := .inl ⟨kv, k, .inl hp, rfl, hv.symm⟩
  exact PyProof.Rows.tail_any (dict_typeIs I g) PySem.F.slot_dict_getitem.lookup (d_getItem hu I g ry fun w' s' I' rw' => ⟨z, H, I', rw', q⟩) hs
def rIxA (K : PySem.W.Frag) : R2 := fun x y H Q => rIx K x y H Q ∨ rIxDk x y H Q
theorem ix_any (hu : X.A.units + 64 < cLine) : IxR X (rIxA X.K) := ix_seq.or (ix_dk (by omega))
theorem n_ix {K : PySem.W.Frag} : Snd2 K (rIxA K) gIx := fun B H x y a b o hx ha hb hg Q q => by
  unfold gIx at hg
  split at hg
  · rename_i h; cases h; cases hb
    obtain ⟨d, e, rfl⟩ := Option.map_eq_some_iff.mp hg
    obtain ⟨p, xs, rfl, h1, h2⟩ := ha
    obtain ⟨v, e1, e2⟩ := at_rep h2 e
    exact .inl (.inl ⟨_, _, _, v, rfl, rfl, Evl.sq_of h1, e1, q.fr hx e2⟩)
  · rename_i h; cases h; cases hb
    obtain ⟨d, e, rfl⟩ := Option.map_eq_some_iff.mp hg
    cases ha with
    | tup h1 h2 =>
      obtain ⟨v, e1, e2⟩ := at_rep h2 e
      exact .inl (.inr (.inl ⟨_, _, _, v, rfl, rfl, Evl.ex_t hx h1.sq, e1, q.fr hx e2⟩))
  · rename_i h; cases h; cases hb
    obtain ⟨d, e, rfl⟩ := Option.map_eq_some_iff.mp hg
    cases ha with
    | scr h1 => exact .inl (.inl ⟨_, _, _, _, rfl, rfl, Evl.ex_l hx h1, at_int e, q.fr hx (.int _)⟩)
  · rename_i h; cases h; cases hb
    split at hg
    · rename_i hl
      obtain ⟨d, e, rfl⟩ := Option.map_eq_some_iff.mp hg
      cases ha
      exact .inl (.inr (.inr ⟨_, _, _, rfl, rfl, hl, e, q.fr hx (.str _)⟩))
    · cases hg
  · rename_i h; cases h
    obtain ⟨k, hk, e0⟩ := Option.bind_eq_some_iff.mp hg
    obtain ⟨d, e, rfl⟩ := Option.map_eq_some_iff.mp e0
    obtain ⟨p, kv, rfl, h1, h2, h3⟩ := ha
    obtain ⟨v, e1, e2⟩ := getK_rep h2 h3 e
    exact .inr ⟨p, kv, k, v, rfl, keyD_v hk hb, h1, e1, q.fr hx e2⟩
  · cases hg

/-! ### built-ins -/
theorem RdL.one {K : PySem.W.Frag} {B H : Hp} {vs : List V} {d : D} (h : RdL K B H vs [d]) : ∃ v, vs = [v] ∧ Rd K B H v d := by
  cases h with
  | cons h hs => cases hs; exact ⟨_, rfl, h⟩
theorem n_len {K : PySem.W.Frag} : SndN K (fun xs H Q => ∃ x n, xs = [x] ∧ LenV K x H n ∧ Q (.int n) H) gLen := fun B H vs ds o hx hr hg Q q => by
  unfold gLen at hg
  split at hg
  · cases hg
    obtain ⟨v, rfl, h⟩ := hr.one
    obtain ⟨p, xs, rfl, h1, h2⟩ := h
    exact ⟨_, _, rfl, .inl ⟨_, Evl.sq_of h1, h2.length.symm⟩, q.fr hx (.int _)⟩
  · cases hg
    obtain ⟨v, rfl, h⟩ := hr.one
    cases h with
    | tup h1 h2 => exact ⟨_, _, rfl, .inr ⟨_, Evl.ex_t hx h1.sq, h2.length.symm⟩, q.fr hx (.int _)⟩
  · cases hg
    obtain ⟨v, rfl, h⟩ := hr.one
    cases h with
    | scr h1 => exact ⟨_, _, rfl, .inl ⟨_, Evl.ex_l hx h1, (List.length_map ..).symm⟩, q.fr hx (.int _)⟩
  · split at hg
    · rename_i hl
      cases hg
      obtain ⟨v, rfl, h⟩ := hr.one
      cases h
      exact ⟨_, _, rfl, ⟨hl, rfl⟩, q.fr hx (.int _)⟩
    · cases hg
  · cases hg
theorem call_int12 {X : Cx} : CallR X (.type "int") (fun xs H Q => ((∃ i, xs = [.int i] ∧ Q (.int i) H) ∨ ∃ k, xs = [.bl k] ∧ Q (.int (if k then 1 else 0)) H) ∨ ∃ a n, xs = [.str a] ∧ PySem.intText? a = some n ∧ a.length ≤ 640 ∧ Q (.int n) H) := call_int1.or call_int_str
theorem n_int {K : PySem.W.Frag} : SndN K (fun xs H Q => ((∃ i, xs = [.int i] ∧ Q (.int i) H) ∨ ∃ k, xs = [.bl k] ∧ Q (.int (if k then 1 else 0)) H) ∨ ∃ a n, xs = [.str a] ∧ PySem.intText? a = some n ∧ a.length ≤ 640 ∧ Q (.int n) H) gInt := fun B H vs ds o hx hr hg Q q => by
  unfold gInt at hg
  split at hg
  · cases hg
    obtain ⟨v, rfl, h⟩ := hr.one
    cases h
    exact .inl (.inl ⟨_, rfl, q.fr hx (.int _)⟩)
  · cases hg
    obtain ⟨v, rfl, h⟩ := hr.one
    cases h
    exact .inl (.inr ⟨_, rfl, q.fr hx (.int _)⟩)
  · split at hg
    · rename_i hl
      obtain ⟨n, hn, rfl⟩ := Option.map_eq_some_iff.mp hg
      obtain ⟨v, rfl, h⟩ := hr.one
      cases h
      exact .inr ⟨_, n, rfl, hn, hl, q.fr hx (.int _)⟩
    · cases hg
  · cases hg
theorem n_abs {K : PySem.W.Frag} : SndN K (fun xs H Q => ∃ i, xs = [.int i] ∧ Q (.int (if i < 0 then -i else i)) H) gAbs := fun B H vs ds o hx hr hg Q q => by
  unfold gAbs at hg
  split at hg
  · cases hg
    obtain ⟨v, rfl, h⟩ := hr.one
    cases h
    exact ⟨_, rfl, q.fr hx (.int _)⟩
  · cases hg
theorem n_ord {K : PySem.W.Frag} : SndN K (fun xs H Q => ∃ x, xs = [.str x] ∧ x.length = 1 ∧ Q (.int (x.cps.getD 0 0 : Nat)) H) gOrd := fun B H vs ds o hx hr hg Q q => by
  unfold gOrd at hg
  split at hg
  · split at hg
    · rename_i hl
      cases hg
      obtain ⟨v, rfl, h⟩ := hr.one
      cases h
      exact ⟨_, rfl, hl, q.fr hx (.int _)⟩
    · cases hg
  · cases hg
theorem n_list {K : PySem.W.Frag} : SndN K (fun xs H Q => ∃ p ys, xs = [.ref p] ∧ (SqL K H p ys ∨ SqT K H p ys) ∧ ∀ l, H l = none → Q (.ref l) (upd H l (.lst ys))) gList := fun B H vs ds o hx hr hg Q q => by
  unfold gList at hg
  split at hg
  · cases hg
    obtain ⟨v, rfl, h⟩ := hr.one
    obtain ⟨p, xs, rfl, h1, h2⟩ := h
    exact ⟨_, _, rfl, .inl (Evl.sq_of h1), fun l hl => q.newL hx h2 hl⟩
  · cases hg
    obtain ⟨v, rfl, h⟩ := hr.one
    cases h with
    | tup h1 h2 => exact ⟨_, _, rfl, .inr (Evl.ex_t hx h1.sq), fun l hl => q.newL hx h2 hl⟩
  · cases hg
    obtain ⟨v, rfl, h⟩ := hr.one
    cases h with
    | scr h1 => exact ⟨_, _, rfl, .inl (Evl.ex_l hx h1), fun l hl => q.newL hx (repL_ints _) hl⟩
  · cases hg
theorem n_tuple {K : PySem.W.Frag} : SndN K (fun xs H Q => ∃ p ys, xs = [.ref p] ∧ ((SqL K H p ys ∧ ∀ l, H l = none → Q (.ref l) (upd H l (.tup ys))) ∨ (SqT K H p ys ∧ Q (.ref p) H))) gTuple := fun B H vs ds o hx hr hg Q q => by
  unfold gTuple at hg
  split at hg
  · cases hg
    obtain ⟨v, rfl, h⟩ := hr.one
    obtain ⟨p, xs, rfl, h1, h2⟩ := h
    exact ⟨_, _, rfl, .inl ⟨Evl.sq_of h1, fun l hl => q.newT hx h2 hl⟩⟩
  · cases hg
    obtain ⟨v, rfl, h⟩ := hr.one
    cases h with
    | tup h1 h2 => exact ⟨_, _, rfl, .inr ⟨Evl.ex_t hx h1.sq, q.fr hx (.tup h1 h2)⟩⟩
  · cases hg
theorem boolsD_map : ∀ {ds : List D} {bs : List Bool}, boolsD ds = some bs → ds = bs.map D.bl
  | [], bs, h => by cases h; rfl
  | d :: ds, bs, h => by
    cases d with
    | bl b =>
      obtain ⟨cs, e, rfl⟩ := Option.map_eq_some_iff.mp (show (boolsD ds).map (b :: ·) = some bs from h)
      rw [boolsD_map e]; rfl
    | _ => cases h
theorem intsD_map : ∀ {ds : List D} {bs : List Int}, intsD ds = some bs → ds = bs.map D.int
  | [], bs, h => by cases h; rfl
  | d :: ds, bs, h => by
    cases d with
    | int b =>
      obtain ⟨cs, e, rfl⟩ := Option.map_eq_some_iff.mp (show (intsD ds).map (b :: ·) = some bs from h)
      rw [intsD_map e]; rfl
    | _ => cases h
theorem strsD_map : ∀ {ds : List D} {bs : List Str}, strsD ds = some bs → ds = bs.map D.str
  | [], bs, h => by cases h; rfl
  | d :: ds, bs, h => by
    cases d with
    | str b =>
      obtain ⟨cs, e, rfl⟩ := Option.map_eq_some_iff.mp (show (strsD ds).map (b :: ·) = some bs from h)
      rw [strsD_map e]; rfl
    | _ => cases h
theorem boolsD_bl : ∀ bs : List Bool, boolsD (bs.map D.bl) = some bs
  | [] => rfl
  | b :: bs => by show (boolsD (bs.map D.bl)).map (b :: ·) = _; rw [boolsD_bl bs]; rfl
theorem intsD_int : ∀ bs : List Int, intsD (bs.map D.int) = some bs
  | [] => rfl
  | b :: bs => by show (intsD (bs.map D.int)).map (b :: ·) = _; rw [intsD_int bs]; rfl
theorem strsD_str : ∀ bs : List Str, strsD (bs.map D.str) = some bs
  | [] => rfl
  | b :: bs => by show (strsD (bs.map D.str)).map (b :: ·) = _; rw [strsD_str bs]; rfl
theorem n_all {K : PySem.W.Frag} : SndN K (rAll K) gAll := fun B H vs ds o hx hr hg Q q => by
  unfold gAll at hg
  split at hg
  · obtain ⟨bs, e, rfl⟩ := Option.map_eq_some_iff.mp hg
    obtain ⟨v, rfl, h⟩ := hr.one
    obtain ⟨p, xs, rfl, h1, h2⟩ := h
    rw [boolsD_map e] at h2
    rw [repL_of_bools h2] at h1
    exact ⟨_, _, rfl, Evl.sq_of h1, q.fr hx (.bl _)⟩
  · cases hg
theorem n_any {K : PySem.W.Frag} : SndN K (rAny K) gAny := fun B H vs ds o hx hr hg Q q => by
  unfold gAny at hg
  split at hg
  · obtain ⟨bs, e, rfl⟩ := Option.map_eq_some_iff.mp hg
    obtain ⟨v, rfl, h⟩ := hr.one
    obtain ⟨p, xs, rfl, h1, h2⟩ := h
    rw [boolsD_map e] at h2
    rw [repL_of_bools h2] at h1
    exact ⟨_, _, rfl, Evl.sq_of h1, q.fr hx (.bl _)⟩
  · cases hg
theorem n_sum {K : PySem.W.Frag} : SndN K (rSum K) gSum := fun B H vs ds o hx hr hg Q q => by
  unfold gSum at hg
  split at hg
  · obtain ⟨bs, e, rfl⟩ := Option.map_eq_some_iff.mp hg
    obtain ⟨v, rfl, h⟩ := hr.one
    obtain ⟨p, xs, rfl, h1, h2⟩ := h
    rw [intsD_map e] at h2
    rw [repL_of_ints h2] at h1
    exact ⟨_, _, rfl, Evl.sq_of h1, q.fr hx (.int _)⟩
  · cases hg
end
end Dn


namespace Dn
open PySem PySem.Spec PyProof.Rows L2
/-- a list, a tuple, a text walked -/
def iAny (K : PySem.W.Frag) (te : TE) : TI := fun σ H R => te σ H fun x H1 => (∃ a, x = .ref a ∧ (∃ xs, SqL K H1 a xs) ∧ R (Itl K a) H1) ∨ (∃ a, x = .ref a ∧ (∃ xs, SqT K H1 a xs) ∧ R (Itt K a) H1) ∨ (∃ z, x = .str z ∧ R (Its z) H1)
theorem pi_any {X : Cx} {tg e : Expr} {te : TE} (he : PE X e te) : PI X tg e (iAny X.K te) := by
  refine ⟨fun pins s σ H R I h => ?_⟩
  refine thn (he.run pins s σ H _ I h) fun v s1 ⟨x, H1, I1, r1, q1⟩ => ?_
  rcases q1 with ⟨a, e, ⟨xs, hq⟩, q⟩ | ⟨a, e, ⟨xs, hq⟩, q⟩ | ⟨x', ex, q⟩
  · subst e
    cases r1
    obtain ⟨its, rv, p, hz⟩ := I1.list hq
    refine wpAny_pyIter_list p.isList ?_
    refine ⟨s1.heap.objs.size, [s1.heap.objs.size], _, _, H1, rfl, I1.kept (t' := s1.toks) fun b o e => Heap.get?_push_of_some _ e, turn_list a _, ⟨_, Heap.get?_push_size _ rfl, rfl, rfl⟩, fun b hb => ?_, q⟩
    have e : b = s1.heap.objs.size := by simpa using hb
    subst e
    exact I1.fpOk (Nat.le_refl _) (I1.hok.fresh (Nat.le_refl _))
  · subst e
    cases r1
    obtain ⟨its, rv, p, hz⟩ := I1.tuple hq
    refine wpAny_pyIter_tuple (show s1.heap.IsTuple a its.toArray from p) ?_
    refine ⟨s1.heap.objs.size, [s1.heap.objs.size], _, _, H1, rfl, I1.kept (t' := s1.toks) fun b o e => Heap.get?_push_of_some _ e, turn_tuple a _, ⟨_, Heap.get?_push_size _ rfl, rfl, rfl⟩, fun b hb => ?_, q⟩
    have e : b = s1.heap.objs.size := by simpa using hb
    subst e
    exact I1.fpOk (Nat.le_refl _) (I1.hok.fresh (Nat.le_refl _))
  · subst ex
    obtain ⟨t, rfl⟩ := r1
    cases ha : x'.cps.all (· < 128)
    · exact wpAny_pyIter_wide ha (pi_one (tk := s1.toks) I1 _ (turn_str _ x' t "str_iterator" (.inr rfl)) ⟨_, Heap.get?_push_size _ rfl, rfl, rfl⟩ q)
    · exact wpAny_pyIter_ascii ha (pi_one (tk := s1.toks) I1 _ (turn_str _ x' t "str_ascii_iterator" (.inl rfl)) ⟨_, Heap.get?_push_size _ rfl, rfl, rfl⟩ q)
end Dn

namespace Dn
open PySem L2
open Evl (Ex)
/-! ## 14. Sources -/
def signs (z : Str) : List D := z.cps.toList.map fun c => .str ⟨#[c]⟩
def seqD : D → Option (List D)
  | .lst ds => some ds
  | .tup ds => some ds
  | .scr ns => some (ns.map .int)
  | .str z => some (signs z)
  | _ => none
def sSeqD (f : M O) : M (List D) := f.bind fun o e => (seqD o.d).map fun ds => .ok ds e
def rngD (lo hi : Int) : List D := (List.range (hi - lo).toNat).map fun i => .int (lo + (i : Nat))
def inR (i : Int) : Bool := decide (-(2 ^ 62) ≤ i ∧ i < 2 ^ 62)
def sRng1 (p : P) : M (List D) := (ops [p]).bind fun ds e => match ds with
  | [.int j] => if inR j then some (.ok (rngD 0 j) e) else none
  | _ => none
def sRng2 (p q : P) : M (List D) := (ops [p, q]).bind fun ds e => match ds with
  | [.int i, .int j] => if inR i && inR j then some (.ok (rngD i j) e) else none
  | _ => none
/-- range(a, b, -1) -/
def sRngD (p q : P) : M (List D) := (ops [p, q, .v (eC (.int (-1)))]).bind fun ds e => match ds with
  | [.int i, .int j, .int _] => if inR i && inR j then some (.ok ((List.range (i - j).toNat).map fun k => .int (i + (k : Nat) * (-1))) e) else none
  | _ => none
def enumD (n : Nat) : List D → List D
  | [] => []
  | d :: ds => .tup [.int (n : Nat), d] :: enumD (n + 1) ds
def sEnum (p : P) : M (List D) := (ops [p]).bind fun ds e => match ds with
  | [.lst xs] => some (.ok (enumD 0 xs) e)
  | _ => none
def zipD : List D → List D → List D
  | x :: xs, y :: ys => .tup [x, y] :: zipD xs ys
  | _, _ => []
def sZip (p q : P) : M (List D) := (ops [p, q]).bind fun ds e => match ds with
  | [.lst xs, .lst ys] => some (.ok (zipD xs ys) e)
  | [.tup xs, .tup ys] => some (.ok (zipD xs ys) e)
  | _ => none
section
variable {K : PySem.W.Frag} {B H : Hp}
theorem walk_at {J : It} {xs : List V} {ds : List D} {G : Hp → Prop} (w : Walk J xs.length G (YAt xs)) (hG : ∀ H, Ex B H → G H) (r : RepL K B xs ds) : WalkD K J B ds := by
  refine ⟨G, YAt xs, by rw [← r.length]; exact w, hG, fun i H x H' B1 hi h1 h2 y => ?_⟩
  obtain ⟨rfl, hx⟩ := y
  obtain ⟨d, hd, rd⟩ := r.get' hx
  exact ⟨B1, d, Gr.refl h2, hd, rd.mono h1⟩
theorem walkD_lst {a : Addr} {xs : List V} {ds : List D} (h : SqL K B a xs) (r : RepL K B xs ds) : WalkD K (Itl K a) B ds := walk_at walk_list (fun H e => Evl.ex_l e h) r
theorem walkD_tup {a : Addr} {xs : List V} {ds : List D} (h : SqT K B a xs) (r : RepL K B xs ds) : WalkD K (Itt K a) B ds := walk_at walk_tup (fun H e => Evl.ex_t e h) r
theorem walkD_str {z : Str} : WalkD K (Its z) B (signs z) := by
  refine ⟨_, _, by unfold signs; rw [List.length_map, Array.length_toList]; exact walk_str, fun _ _ => trivial, fun i H x H' B1 hi h1 h2 y => ?_⟩
  obtain ⟨rfl, c, hc, rfl⟩ := y
  refine ⟨B1, .str ⟨#[c]⟩, Gr.refl h2, ?_, .str _⟩
  unfold signs
  rw [List.getElem?_map, Array.getElem?_toList, hc]
  rfl
theorem walkD_rng {lo hi : Int} : WalkD K (Itr lo (hi - lo).toNat) B (rngD lo hi) := by
  refine ⟨_, _, by unfold rngD; rw [List.length_map, List.length_range]; exact walk_range, fun _ _ => trivial, fun i H x H' B1 hi' h1 h2 y => ?_⟩
  obtain ⟨rfl, rfl⟩ := y
  refine ⟨B1, .int (lo + (i : Nat)), Gr.refl h2, ?_, .int _⟩
  unfold rngD at hi' ⊢
  rw [List.length_map, List.length_range] at hi'
  rw [List.getElem?_map, List.getElem?_range hi']
  rfl
theorem walkD_rngD {lo : Int} {n : Nat} : WalkD K (Itc lo (-1) n) B ((List.range n).map fun k => .int (lo + (k : Nat) * (-1))) := by
  refine ⟨_, _, by rw [List.length_map, List.length_range]; exact walk_rangeC, fun _ _ => trivial, fun i H x H' B1 hi' h1 h2 y => ?_⟩
  obtain ⟨rfl, rfl⟩ := y
  refine ⟨B1, .int (lo + (i : Nat) * (-1)), Gr.refl h2, ?_, .int _⟩
  rw [List.length_map, List.length_range] at hi'
  rw [List.getElem?_map, List.getElem?_range hi']
  rfl
theorem enumD_len : ∀ (ds : List D) (n : Nat), (enumD n ds).length = ds.length
  | [], _ => rfl
  | d :: ds, n => by show (enumD (n + 1) ds).length + 1 = ds.length + 1; rw [enumD_len ds]
theorem enumD_get : ∀ (ds : List D) (n i : Nat) (d : D), ds[i]? = some d → (enumD n ds)[i]? = some (.tup [.int ((n + i : Nat) : Int), d])
  | [], _, _, _, h => by simp at h
  | x :: ds, n, 0, d, h => by
    have h' : some x = some d := h
    cases h'
    rfl
  | x :: ds, n, i + 1, d, h => by
    have := enumD_get ds (n + 1) i d h
    rw [show n + 1 + i = n + (i + 1) by omega] at this
    exact this
theorem walkD_enum {a : Addr} {xs : List V} {ds : List D} (h : SqL K B a xs) (r : RepL K B xs ds) : WalkD K (Ite K a) B (enumD 0 ds) := by
  refine ⟨_, _, by rw [enumD_len, ← r.length]; exact walk_enum (xs := xs), fun H e => Evl.ex_l e h, fun i H x H' B1 hi h1 h2 y => ?_⟩
  obtain ⟨T, u, v, rfl, hT, rfl, hu, hv⟩ := y
  cases hu
  obtain ⟨d, hd, rd⟩ := r.get' hv
  have g := Gr.new h2 hT (.tup [.int (i : Nat), v])
  refine ⟨_, .tup [.int ((0 + i : Nat) : Int), d], g, enumD_get ds 0 i d hd, .tup (.inl upd_same) ?_⟩
  rw [Nat.zero_add]
  exact .cons (.int _) (.cons ((rd.mono h1).mono g.b) .nil)
theorem zipD_len : ∀ (xs ys : List D), (zipD xs ys).length = min xs.length ys.length
  | [], ys => by simp [zipD]
  | x :: xs, [] => by simp [zipD]
  | x :: xs, y :: ys => by show (zipD xs ys).length + 1 = _; rw [zipD_len xs ys, List.length_cons, List.length_cons]; omega
theorem zipD_get : ∀ (xs ys : List D) (i : Nat) (x y : D), xs[i]? = some x → ys[i]? = some y → (zipD xs ys)[i]? = some (.tup [x, y])
  | [], _, _, _, _, h, _ => by simp at h
  | _ :: _, [], _, _, _, _, h => by simp at h
  | a :: xs, b :: ys, 0, x, y, h1, h2 => by
    have h1' : some a = some x := h1
    have h2' : some b = some y := h2
    cases h1'; cases h2'; rfl
  | a :: xs, b :: ys, i + 1, x, y, h1, h2 => zipD_get xs ys i x y h1 h2
theorem walkD_zip {a b : Addr} {xs ys : List V} {ds es : List D} (h1 : SqL K B a xs) (h2 : SqL K B b ys) (r1 : RepL K B xs ds) (r2 : RepL K B ys es) : WalkD K (Itz K a b) B (zipD ds es) := by
  refine ⟨_, _, walk_zip (xs := xs) (ys := ys) (by rw [zipD_len, r1.length, r2.length]), fun H e => ⟨Evl.ex_l e h1, Evl.ex_l e h2⟩, fun i H x H' B1 hi k1 k2 y => ?_⟩
  obtain ⟨T, u, v, rfl, hT, rfl, hu, hv⟩ := y
  obtain ⟨d, hd, rd⟩ := r1.get' hu
  obtain ⟨d2, hd2, rd2⟩ := r2.get' hv
  have g := Gr.new k2 hT (.tup [u, v])
  exact ⟨_, .tup [d, d2], g, zipD_get ds es i d d2 hd hd2, .tup (.inl upd_same) (.cons ((rd.mono k1).mono g.b) (.cons ((rd2.mono k1).mono g.b) .nil))⟩
end
section
variable {X : Cx} {W : WX} {e a b c tg : Expr} {pos p : Pos} {f : M O} {p1 p2 : P}
theorem i_seq (h : PE X e (tE X.K X.mg W f)) : PI X tg e (tSrc X.K X.mg W (sSeqD f)) := pi_imp (pi_any h) fun σ H R h => by
  obtain ⟨B, e, S, r, h⟩ := h
  refine ⟨B, e, S, r, h.bind.imp (fun o e' h v B' H' S' T vl fr => ?_) fun _ _ z => z⟩
  obtain ⟨B2, vl2, f2⟩ := vl.freeze
  have f3 : Fr B H (tot S) B2 H' (tot S') := fr.trans ⟨f2.b, fun a o q _ => q, fun a z => .inl (.inr z), fun a u q => (f2.c a u q).elim .inl fun z => .inr (z.elim (fun z => .inl (.inl z)) .inr), fun a o q => ⟨o, q⟩⟩
  have rv := vl2.ro.1
  have hx := vl2.rp.ex
  generalize o.d = d at *
  have h0 : Post ((seqD d).map fun ds => Ro.ok ds e') (fun ds e' => ∀ J B' H' S', Rp X.K B' H' σ e' S' → Fr B H (tot S) B' H' (tot S') → WalkD X.K J B' ds → R J H') (fun x e' => ExE X.K X.mg W B H S σ x e') := h
  cases rv with
  | non => exact h0.elim
  | bl b => exact h0.elim
  | int b => exact h0.elim
  | opq v => exact h0.elim
  | dct _ _ _ => exact h0.elim
  | ins _ _ _ _ => exact h0.elim
  | str z => exact .inr (.inr ⟨z, rfl, (show ∀ J B' H' S', Rp X.K B' H' σ e' S' → Fr B H (tot S) B' H' (tot S') → WalkD X.K J B' (signs z) → R J H' from h0) _ B2 H' S' vl2.rp f3 walkD_str⟩)
  | lst h1 h2 => exact .inl ⟨_, rfl, ⟨_, Evl.sq_of (hx _ _ h1)⟩, (show ∀ J B' H' S', Rp X.K B' H' σ e' S' → Fr B H (tot S) B' H' (tot S') → WalkD X.K J B' _ → R J H' from h0) _ B2 H' S' vl2.rp f3 (walkD_lst (Evl.sq_of h1) h2)⟩
  | tup h1 h2 => exact .inr (.inl ⟨_, rfl, ⟨_, Evl.ex_t hx h1.sq⟩, (show ∀ J B' H' S', Rp X.K B' H' σ e' S' → Fr B H (tot S) B' H' (tot S') → WalkD X.K J B' _ → R J H' from h0) _ B2 H' S' vl2.rp f3 (walkD_tup h1.sq h2)⟩)
  | scr h1 => exact .inl ⟨_, rfl, ⟨_, Evl.ex_l hx h1⟩, (show ∀ J B' H' S', Rp X.K B' H' σ e' S' → Fr B H (tot S) B' H' (tot S') → WalkD X.K J B' _ → R J H' from h0) _ B2 H' S' vl2.rp f3 (walkD_lst h1 (repL_ints _))⟩
theorem inR_of {i : Int} (h : inR i = true) : -(2 ^ 62) ≤ i ∧ i < 2 ^ 62 := of_decide_eq_true h
theorem i_rng1 (hg : Gl X "range") (hm : X.mg "range" = none) (ha : PA X [a] (tPs X.K X.mg W [p1])) (hs : starEach [a] X.env = [(false, eval a X.env)] := by rfl) : PI X tg (.Call (.Name "range" p) [a] [] pos) (tSrc X.K X.mg W (sRng1 p1)) := pi_imp (pi_range1 hg hm ha hs) fun σ H R h => by
  obtain ⟨B, e, S, r, h⟩ := h
  refine ops_run [p1] _ r (h.bind.imp (fun ds e' h vs B' H' S' r' rl f => ?_) fun _ _ z => z)
  split at h
  · rename_i j
    split at h
    · rename_i hj
      obtain ⟨v, rfl, rv⟩ := rl.one
      cases rv
      obtain ⟨h1, h2⟩ := inR_of hj
      refine ⟨j, rfl, h1, h2, (show ∀ J B' H' S', Rp X.K B' H' σ e' S' → Fr B H (tot S) B' H' (tot S') → WalkD X.K J B' _ → R J H' from h) _ B' H' S' r' f ?_⟩
      have := walkD_rng (K := X.K) (B := B') (lo := 0) (hi := j)
      rwa [show j - 0 = j by omega] at this
    · exact h.elim
  · exact h.elim
theorem i_rng2 (hg : Gl X "range") (hm : X.mg "range" = none) (ha : PA X [a, b] (tPs X.K X.mg W [p1, p2])) (hs : starEach [a, b] X.env = [(false, eval a X.env), (false, eval b X.env)] := by rfl) (hs2 : starEach [b] X.env = [(false, eval b X.env)] := by rfl) : PI X tg (.Call (.Name "range" p) [a, b] [] pos) (tSrc X.K X.mg W (sRng2 p1 p2)) := pi_imp (pi_range2 hg hm ha hs hs2) fun σ H R h => by
  obtain ⟨B, e, S, r, h⟩ := h
  refine ops_run [p1, p2] _ r (h.bind.imp (fun ds e' h vs B' H' S' r' rl f => ?_) fun _ _ z => z)
  split at h
  · rename_i i j
    split at h
    · rename_i hj
      rw [Bool.and_eq_true] at hj
      cases rl with
      | cons a1 rl =>
        cases rl with
        | cons a2 rl =>
          cases rl
          cases a1; cases a2
          exact ⟨i, j, rfl, ⟨(inR_of hj.1).1, (inR_of hj.1).2, (inR_of hj.2).1, (inR_of hj.2).2⟩, (show ∀ J B' H' S', Rp X.K B' H' σ e' S' → Fr B H (tot S) B' H' (tot S') → WalkD X.K J B' _ → R J H' from h) _ B' H' S' r' f walkD_rng⟩
    · exact h.elim
  · exact h.elim
theorem i_enum {elts : List Expr} {kk : Nat} {tpos : Pos} (hg : Gl X "enumerate") (hm : X.mg "enumerate" = none) (ha : PE X e (tE X.K X.mg W f)) (hs : starEach [e] X.env = [(false, eval e X.env)] := by rfl) : PI X (.Tuple elts kk tpos) (.Call (.Name "enumerate" p) [e] [] pos) (tSrc X.K X.mg W (sEnum (.v f))) := pi_imp (pi_enum hg hm (is_c (f := f) ha is_n hs) hs) fun σ H R h => by
  obtain ⟨B, e, S, r, h⟩ := h
  refine items_run [f] _ r ?_
  have h0 := h.bind
  unfold ops at h0
  unfold items
  have h1 := h0.bind
  show Post (M.bind f _ e) _ _
  cases q : f e with
  | none => rw [q] at h1; exact h1.elim
  | some ro =>
    rw [q] at h1
    unfold M.bind
    rw [q]
    cases ro with
    | ex x e' => exact h1
    | ok o e' =>
      intro vs B' H' S' r' rl fr
      have h2 : Post (match [o.d] with
        | [.lst xs] => some (Ro.ok (enumD 0 xs) e')
        | _ => none) (fun ds e' => ∀ J B' H' S', Rp X.K B' H' σ e' S' → Fr B H (tot S) B' H' (tot S') → WalkD X.K J B' ds → R J H') (fun x e' => ExE X.K X.mg W B H S σ x e') := h1
      cases rl with
      | cons rv rl =>
        cases rl
        generalize o.d = d at *
        cases rv with
        | lst k1 k2 => exact ⟨_, _, rfl, Evl.sq_of (r'.ex _ _ k1), (show ∀ J B' H' S', Rp X.K B' H' σ e' S' → Fr B H (tot S) B' H' (tot S') → WalkD X.K J B' _ → R J H' from h2) _ B' H' S' r' fr (walkD_enum (Evl.sq_of k1) k2)⟩
        | _ => exact h2.elim
end
end Dn

namespace Dn
open PySem L2
open Evl (Ex)

/-! ## 15. Comprehensions -/
def wipeE (e : Sl) : List Nat → Sl
  | [] => e
  | v :: vs => (wipeE e vs).set v none
def restE (e0 e : Sl) : List Nat → Sl
  | [] => e
  | v :: vs => match e0[v]? with
    | some (some (.fr d)) => (restE e0 e vs).set v (some (.fr d))
    | _ => restE e0 e vs
def lcL (own : List Nat) (tg : Tg) (t : M Bool) (f : M O) : List D → List D → Sl → Option (List D × Sl)
  | [], acc, e => some (acc, e)
  | d :: ds, acc, e => match tg.go d e with
    | none => none
    | some e1 => match t e1 with
      | some (.ok b e2) => if b then (match f e2 with
          | some (.ok o e3) => if acc.length < sizeLine then lcL own tg t f ds (acc ++ [o.d]) (wipeE e3 own) else none
          | _ => none) else lcL own tg t f ds acc (wipeE e2 own)
      | _ => none
def eComp (own : List Nat) (src : M (List D)) (tg : Tg) (t : M Bool) (f : M O) : M O := src.bind fun ds e => match lcL own tg t f ds [] (wipeE e own) with
  | some (acc, e') => some (.ok (.lst acc) (restE e e' own))
  | none => none
def cYes : M Bool := M.pure true

theorem wipe_at {σ : St} {own : List Nat} {j : Nat} : (wipe σ own)[j]? = if j ∈ own then (σ[j]?).map (fun _ => none) else σ[j]? := by
  induction own with
  | nil => simp [wipe]
  | cons v vs ih =>
    unfold wipe
    by_cases hj : v = j
    · subst hj
      rw [List.getElem?_set_self', ih, if_pos List.mem_cons_self]
      by_cases hv : v ∈ vs
      · rw [if_pos hv]
        cases σ[v]? <;> simp
      · rw [if_neg hv]
        cases σ[v]? <;> simp
    · rw [List.getElem?_set_ne hj, ih]
      by_cases hv : j ∈ vs
      · rw [if_pos hv, if_pos (List.mem_cons_of_mem _ hv)]
      · rw [if_neg hv, if_neg (by rw [List.mem_cons, not_or]; exact ⟨fun z => hj z.symm, hv⟩)]
theorem wipeE_len (e : Sl) : ∀ own : List Nat, (wipeE e own).length = e.length
  | [] => rfl
  | v :: vs => by unfold wipeE; rw [List.length_set, wipeE_len e vs]
theorem wipeE_at {e : Sl} {own : List Nat} {j : Nat} {o : O} (h : (wipeE e own)[j]? = some (some o)) : j ∉ own ∧ e[j]? = some (some o) := by
  induction own with
  | nil => exact ⟨by simp, h⟩
  | cons v vs ih =>
    unfold wipeE at h
    by_cases hj : v = j
    · subst hj
      rw [List.getElem?_set_self'] at h
      cases q : (wipeE e vs)[v]? with
      | none => rw [q] at h; cases h
      | some u => rw [q] at h; cases h
    · rw [List.getElem?_set_ne hj] at h
      obtain ⟨h1, h2⟩ := ih h
      exact ⟨by rw [List.mem_cons, not_or]; exact ⟨fun z => hj z.symm, h1⟩, h2⟩
theorem restE_len (e0 e : Sl) : ∀ own : List Nat, (restE e0 e own).length = e.length
  | [] => rfl
  | v :: vs => by
    unfold restE
    split
    · rw [List.length_set, restE_len e0 e vs]
    · exact restE_len e0 e vs
theorem restE_at {e0 e : Sl} {own : List Nat} {j : Nat} {o : O} (h : (restE e0 e own)[j]? = some (some o)) : (j ∈ own ∧ e0[j]? = some (some o) ∧ ∃ d, o = .fr d) ∨ e[j]? = some (some o) := by
  induction own with
  | nil => exact .inr h
  | cons v vs ih =>
    unfold restE at h
    split at h
    · rename_i d hd
      by_cases hj : v = j
      · subst hj
        rw [List.getElem?_set_self'] at h
        cases q : (restE e0 e vs)[v]? with
        | none => rw [q] at h; cases h
        | some u =>
          rw [q] at h
          cases h
          exact .inl ⟨List.mem_cons_self, hd, d, rfl⟩
      · rw [List.getElem?_set_ne hj] at h
        rcases ih h with ⟨a, b⟩ | a
        · exact .inl ⟨List.mem_cons_of_mem _ a, b⟩
        · exact .inr a
    · rcases ih h with ⟨a, b⟩ | a
      · exact .inl ⟨List.mem_cons_of_mem _ a, b⟩
      · exact .inr a
theorem wipe_eq {σ σ' : St} {own : List Nat} (l : σ.length = σ'.length) (h : ∀ j : Nat, j ∉ own → σ[j]? = σ'[j]?) : wipe σ own = wipe σ' own := by
  apply List.ext_getElem?
  intro j
  rw [wipe_at, wipe_at]
  by_cases hj : j ∈ own
  · rw [if_pos hj, if_pos hj]
    by_cases hl : j < σ.length
    · rw [List.getElem?_eq_getElem hl, List.getElem?_eq_getElem (l ▸ hl)]; rfl
    · rw [List.getElem?_eq_none (by omega), List.getElem?_eq_none (by omega)]
  · rw [if_neg hj, if_neg hj]; exact h j hj
theorem wipe_wipe (σ : St) (own : List Nat) : wipe (wipe σ own) own = wipe σ own := by
  refine wipe_eq (wipe_length σ own) fun j hj => ?_
  rw [wipe_at, if_neg hj]

section
variable {K : PySem.W.Frag} {mg : Str → Option Value} {W : WX} {B B' H H' : Hp} {v : V} {o : O} {σ σ' : St} {e e' : Sl} {S S' : Nat → Addr → Prop} {T T' : Addr → Prop}
theorem Rp.wipe (r : Rp K B H σ e S) (own : List Nat) : Rp K B H (L2.wipe σ own) (wipeE e own) S :=
  ⟨by rw [wipe_length, wipeE_len]; exact r.len, r.ex, fun i o ho => by
    obtain ⟨h1, h2⟩ := wipeE_at ho
    obtain ⟨v, h3, h4⟩ := r.rep i o h2
    exact ⟨v, by rw [wipe_at, if_neg h1]; exact h3, h4⟩, r.dis, r.own⟩
theorem Rp.upd (r : Rp K B H σ e S) {p : Addr} {u : HO} (hb : B p = none) (hs : ∀ i, ¬ S i p) : Rp K B (upd H p u) σ e S := by
  refine ⟨r.len, fun a o ha => ?_, fun i o ho => ?_, r.dis, fun i a ha => ⟨(r.own i a ha).1, ?_⟩⟩
  · by_cases hp : a = p
    · subst hp; rw [hb] at ha; cases ha
    · rw [upd_ne hp]; exact r.ex a o ha
  · obtain ⟨v, h1, h2⟩ := r.rep i o ho
    refine ⟨v, h1, ?_⟩
    cases o with
    | fr d => exact h2
    | lst ds =>
      obtain ⟨q, xs, e1, h3, h4, h5⟩ := h2
      refine ⟨q, xs, e1, ?_, h4, h5⟩
      rw [upd_ne]
      · exact h3
      · intro z
        exact hs i ((h5 p).mpr z.symm)
    | dct kvs =>
      obtain ⟨q, kv, e1, h3, hk, h4, h5⟩ := h2
      refine ⟨q, kv, e1, ?_, hk, h4, h5⟩
      rw [upd_ne]
      · exact h3
      · intro z
        exact hs i ((h5 p).mpr z.symm)
    | ins c ns xs =>
      obtain ⟨q, C, dx, fs, e1, h3, hc, hk, h4, h5⟩ := h2
      refine ⟨q, C, dx, fs, e1, ?_, hc, hk, h4, h5⟩
      rw [upd_ne]
      · exact h3
      · intro z
        exact hs i ((h5 p).mpr z.symm)
    | exn a d x => exact h2
    | tr t => exact RepT.frame (Ex.refl B) h2 fun a o z q => by rw [upd_ne (show a ≠ p from fun y => hs i (by rw [← y]; exact z))]; exact q
  · by_cases hp : a = p
    · exact ⟨u, by rw [hp]; exact upd_same⟩
    · obtain ⟨_, o, h⟩ := r.own i a ha
      exact ⟨o, by rw [upd_ne hp]; exact h⟩
theorem Fr.both (f : Fr B H T B' H' T') (U : Addr → Prop) : Fr B H (fun a => U a ∨ T a) B' H' (fun a => U a ∨ T' a) :=
  ⟨f.b, fun a o h n => f.k a o h fun z => n (.inr z), fun a z => z.elim (fun z => .inl (.inl z)) fun z => (f.n a z).elim (fun z => .inl (.inr z)) .inr, fun a o h => (f.c a o h).elim .inl fun z => .inr (z.elim (fun z => .inl (.inr z)) .inr), f.a⟩
theorem Fr.upd {p : Addr} {u u' : HO} (h : H p = some u) (hT : T p) : Fr B H T B (upd H p u') T :=
  ⟨Ex.refl B, fun a o ha hn => by rw [upd_ne (fun z => hn (by rw [z]; exact hT))]; exact ha, fun _ z => .inl z, fun _ _ z => .inl z, fun a o ha => by
    by_cases hp : a = p
    · exact ⟨u', by rw [hp]; exact upd_same⟩
    · exact ⟨o, by rw [upd_ne hp]; exact ha⟩⟩
theorem setAll_slen : ∀ (is : List Nat) (ds : List D) {e e2 : Sl}, setAll is ds e = some e2 → e2.length = e.length
  | [], [], e, e2, h => by cases h; rfl
  | [], _ :: _, _, _, h => by cases h
  | _ :: _, [], _, _, h => by cases h
  | i :: is, d :: ds, e, e2, h => by
    rw [setAll_slen is ds (e := e.set i (some (.fr d))) h, List.length_set]
theorem go_len {tg : Tg} {d : D} {e e2 : Sl} (h : tg.go d e = some e2) : e2.length = e.length := by
  cases tg with
  | n i => cases h; rw [List.length_set]
  | t is =>
    cases d with
    | tup ds => exact setAll_slen is ds h
    | _ => cases h
/-- a new list of one's own beside the slots, changed in place -/
theorem comp_run {own : List Nat} {tg : Tg} {t : M Bool} {f : M O} {src : M (List D)} {Q : VK} (hk : ∀ i ∈ tg.ix, i ∈ own) (h : tE K mg W (eComp own src tg t f) σ H Q) :
    tLc (tSrc K mg W src) (tTg K tg) (tT K mg (fun _ _ _ _ => False) t) (tE K mg (fun _ _ _ _ => False) f) own σ H Q := by
  obtain ⟨B, e, S, r, h⟩ := h
  refine ⟨B, e, S, r, h.bind.imp (fun ds e1 h J B1 H1 S1 r1 f1 wd D hD => ?_) fun _ _ z => z⟩
  obtain ⟨G, Y, wk, hG, hY⟩ := wd
  cases q : lcL own tg t f ds [] (wipeE e1 own) with
  | none => rw [q] at h; exact h.elim
  | some res =>
    obtain ⟨accF, eF⟩ := res
    rw [q] at h
    have h0 : ∀ v B' H' S' T, Vl K B' H' σ (restE e1 eF own) S' v (.lst accF) T → Fr B H (tot S) B' H' (fun a => T a ∨ tot S' a) → Q v H' := h
    have hbD : B1 D = none := by
      cases qd : B1 D with
      | none => rfl
      | some u => have := r1.ex D u qd; rw [hD] at this; cases this
    have hsD : ∀ i, ¬ S1 i D := fun i z => by
      obtain ⟨_, o, ho⟩ := r1.own i D z
      rw [hD] at ho; cases ho
    have own1 : Own B1 (upd H1 D (.lst [])) (fun a => a = D) := fun a ha => by subst ha; exact ⟨hbD, _, upd_same⟩
    refine lc_it wk (fun i H' => ∃ B' e' S' acc, Vl K B' H' (wipe σ own) e' S' (.ref D) (.lst acc) (fun a => a = D) ∧ Fr B H (tot S) B' H' (fun a => a = D ∨ tot S' a) ∧ Ex B1 B' ∧ lcL own tg t f (ds.drop i) acc e' = some (accF, eF))
      ⟨B1, wipeE e1 own, S1, [], ⟨(r1.upd hbD hsD).wipe own, ⟨D, [], rfl, upd_same, .nil, fun a => Iff.rfl⟩, own1, fun a ha ⟨i, z⟩ => hsD i (ha ▸ z)⟩, ?_, Ex.refl _, by rw [List.drop_zero]; exact q⟩
      (fun i H' hi ⟨B', e', S', acc, vl, f', x', h'⟩ => hG _ (x'.trans vl.rp.ex)) (fun i x H' H2 hi ⟨B', e', S', acc, vl, f', x', h'⟩ hy => ?_) fun H' ⟨B', e', S', acc, vl, f', x', h'⟩ => ?_
    · refine f1.trans ⟨Ex.refl _, fun a o ha _ => ?_, fun a z => z.elim (fun z => .inr (by rw [z]; exact hD)) .inl, fun _ _ z => .inl z, fun a o ha => ⟨o, ?_⟩⟩
      · rw [upd_ne (ne_of_none ha hD)]; exact ha
      · rw [upd_ne (ne_of_none ha hD)]; exact ha
    · obtain ⟨B2, d, gr, hd, rv⟩ := hY i H' x H2 B' hi x' vl.rp.ex hy
      have ed : ds.drop i = d :: ds.drop (i + 1) := by
        rw [List.drop_eq_getElem_cons hi]
        rw [List.getElem?_eq_getElem hi] at hd
        cases hd
        rfl
      rw [ed] at h'
      unfold lcL at h'
      have r2 := vl.rp.grow gr
      have ro2 := vl.ro.grow gr
      have ow2 := vl.own.grow gr
      cases qt : tg.go d e' with
      | none => rw [qt] at h'; cases h'
      | some e2 =>
        rw [qt] at h'
        dsimp only at h'
        refine tg_run (ks := []) r2 rv qt (fun _ _ z => nomatch z) fun σ3 S3 r3 _ t3 n3 => ?_
        have wσ : wipe σ3 own = wipe σ own := by
          rw [← wipe_wipe σ own]
          exact wipe_eq (r3.len.trans ((go_len qt).trans r2.len.symm)) fun j hj => n3 j fun z => hj (hk j z)
        refine ⟨wσ, B2, e2, S3, r3, ?_⟩
        have dj3 : ∀ a, a = D → ¬ tot S3 a := fun a ha z => vl.dj a ha (t3 a z)
        have f3 : Fr B H (tot S) B2 H2 (fun a => a = D ∨ tot S3 a) := (f'.trans (gr.fr _)).imp (fun _ z => z) fun a z => z.elim .inl fun z => .inr (t3 a z)
        cases qc : t e2 with
        | none => rw [qc] at h'; cases h'
        | some rc =>
          rw [qc] at h'
          cases rc with
          | ex _ _ => cases h'
          | ok b e4 =>
            intro B4 H4 S4 r4 f4
            obtain ⟨ro4, ow4, dj4⟩ := ro2.frame ow2 dj3 f4
            have f34 := f3.trans (f4.both fun a => a = D)
            cases b with
            | false =>
              exact iteF ⟨B4, _, S4, acc, ⟨by rw [← wσ]; exact r4.wipe own, ro4, ow4, dj4⟩, f34, (x'.trans gr.b).trans f4.b, h'⟩
            | true =>
              refine iteT ⟨B4, e4, S4, r4, ?_⟩
              cases qf : f e4 with
              | none => simp only [qf, if_true] at h'; cases h'
              | some rf =>
                simp only [qf, if_true] at h'
                cases rf with
                | ex _ _ => cases h'
                | ok o e5 =>
                  intro y B5 H5 S5 T5 vl5 f5
                  obtain ⟨B6, vl6, f6⟩ := vl5.freeze
                  have f56 : Fr B4 H4 (tot S4) B6 H5 (tot S5) := f5.trans ⟨f6.b, fun a o q _ => q, fun a z => .inl (.inr z), fun a u q => (f6.c a u q).elim .inl fun z => .inr (z.elim (fun z => .inl (.inl z)) .inr), fun a o q => ⟨o, q⟩⟩
                  obtain ⟨ro6, ow6, dj6⟩ := ro4.frame ow4 dj4 f56
                  obtain ⟨p, xs, ep, hp, rl, hs⟩ := ro6
                  cases ep
                  dsimp only at h'
                  split at h'
                  · rename_i hlen
                    refine ⟨xs, hp, by rw [rl.length]; exact hlen, B6, _, S5, _, ⟨?_, ⟨D, _, rfl, upd_same, rl.append (.one vl6.ro.1), fun a => Iff.rfl⟩, fun a ha => ⟨(ow6 a ha).1, by subst ha; exact ⟨_, upd_same⟩⟩, dj6⟩, ?_, (x'.trans gr.b).trans (f4.b.trans f56.b), h'⟩
                    · rw [← wσ]
                      exact (vl6.rp.wipe own).upd (ow6 D rfl).1 fun i z => dj6 D rfl ⟨i, z⟩
                    · exact (f34.trans (f56.both fun a => a = D)).trans (Fr.upd hp (.inl rfl))
                  · cases h'
    · rw [List.drop_length] at h'
      have h2 : some (acc, e') = some (accF, eF) := h'
      cases h2
      refine h0 (.ref D) B' H' (fun j => if j ∈ own then noS else S' j) (fun a => a = D) ⟨⟨by rw [restE_len, ← vl.rp.len, wipe_length], vl.rp.ex, fun j o ho => ?_, fun i j a h1 h2 => ?_, fun j a h1 => ?_⟩, vl.ro, vl.own, fun a ha ⟨j, z⟩ => ?_⟩ (f'.imp (fun _ z => z) fun a z => z.elim .inl fun ⟨j, z⟩ => ?_)
      · have hin : ∀ o, eF[j]? = some (some o) → j ∉ own := fun o ho hj => by
          obtain ⟨v, hv, _⟩ := vl.rp.rep j o ho
          rw [wipe_at, if_pos hj] at hv
          cases qq : σ[j]? with
          | none => rw [qq] at hv; cases hv
          | some u => rw [qq] at hv; cases hv
        rcases restE_at ho with ⟨a, b, d, rfl⟩ | a
        · obtain ⟨v, hv, ro⟩ := r1.rep j _ b
          exact ⟨v, hv, by rw [if_pos a]; exact ⟨ro.1.mono x', fun _ z => z⟩⟩
        · obtain ⟨v, hv, ro⟩ := vl.rp.rep j o a
          have hj := hin o a
          rw [wipe_at, if_neg hj] at hv
          exact ⟨v, hv, by rw [if_neg hj]; exact ro⟩
      · skip
        by_cases hi : i ∈ own
        · rw [if_pos hi] at h1; exact h1.elim
        · by_cases hj : j ∈ own
          · rw [if_pos hj] at h2; exact h2.elim
          · rw [if_neg hi] at h1; rw [if_neg hj] at h2; exact vl.rp.dis i j a h1 h2
      · skip
        by_cases hj : j ∈ own
        · rw [if_pos hj] at h1; exact h1.elim
        · rw [if_neg hj] at h1; exact vl.rp.own j a h1
      · dsimp only at z
        by_cases hj : j ∈ own
        · rw [if_pos hj] at z; exact z.elim
        · rw [if_neg hj] at z; exact vl.dj a ha ⟨j, z⟩
      · dsimp only at z
        by_cases hj : j ∈ own
        · rw [if_pos hj] at z; exact z.elim
        · rw [if_neg hj] at z; exact .inr ⟨j, z⟩
end
section
variable {X : Cx} {W : WX}
abbrev WF : WX := fun _ _ _ _ => False
theorem d_comp {elt tgt iter : Expr} {ifs : List Expr} {scope : Scope} {own : List (Str × Nat)} {pos : Pos} {src : M (List D)} {tg : Tg} {t : M Bool} {f : M O} (hc : X.calm = true) (hN : X.N.Nodup) (hi : PI X tgt iter (tSrc X.K X.mg W src)) (ok : BlkOk X.N X.env.scope scope own)
    (hg : ∀ (s : Shared) (H : Hp) (C : Addr) (cl : List (Str × Addr)) (fp : List Addr), PG (X.blk s H scope (compEnvC scope cl C X.env) fp) tgt (tTg X.K tg)) (ht : ∀ (s : Shared) (H : Hp) (C : Addr) (cl : List (Str × Addr)) (fp : List Addr), PTs (X.blk s H scope (compEnvC scope cl C X.env) fp) ifs (tT X.K X.mg WF t))
    (he : ∀ (s : Shared) (H : Hp) (C : Addr) (cl : List (Str × Addr)) (fp : List Addr), PE (X.blk s H scope (compEnvC scope cl C X.env) fp) elt (tE X.K X.mg WF f)) (hk : ∀ i ∈ tg.ix, i ∈ own.map (·.2)) (hs : ∀ x, foldedSetIterable iter X.env x = pure x := by intro _; rfl) :
    PE X (.ListComp elt [⟨tgt, iter, ifs, 0⟩] scope pos) (tE X.K X.mg W (eComp (own.map (·.2)) src tg t f)) := pe_imp (pe_lc hc hN hi ok hg ht he hs) fun _ _ _ h => comp_run hk h
theorem s_setLc {ks : List Nat} {i : Nat} {y : Str} {py : Pos} {elt tgt iter : Expr} {ifs : List Expr} {scope : Scope} {own : List (Str × Nat)} {pos spos : Pos} {src : M (List D)} {tg : Tg} {t : M Bool} {f : M O} (hc : X.calm = true) (hN : X.N.Nodup) (hy : X.N[i]? = some y) (hyl : X.env.scope.names.lookup y = some .local)
    (hsw : swapsWith (.ListComp elt [⟨tgt, iter, ifs, 0⟩] scope pos) (some (.Name y py)) spos.line X.env = pure true) (hi : PI X tgt iter (tSrc X.K X.mg W src)) (ok : BlkOk X.N X.env.scope scope own)
    (hg : ∀ (s : Shared) (H : Hp) (C : Addr) (cl : List (Str × Addr)) (fp : List Addr), PG (X.blk s H scope (compEnvC scope cl C X.env) fp) tgt (tTg X.K tg)) (ht : ∀ (s : Shared) (H : Hp) (C : Addr) (cl : List (Str × Addr)) (fp : List Addr), PTs (X.blk s H scope (compEnvC scope cl C X.env) fp) ifs (tT X.K X.mg WF t))
    (he : ∀ (s : Shared) (H : Hp) (C : Addr) (cl : List (Str × Addr)) (fp : List Addr), PE (X.blk s H scope (compEnvC scope cl C X.env) fp) elt (tE X.K X.mg WF f)) (hk : ∀ i ∈ tg.ix, i ∈ own.map (·.2)) (hki : i ∉ ks := by decide) (hs : ∀ x, foldedSetIterable iter X.env x = pure x := by intro _; rfl) :
    PS X (.Assign [.Name y py] (.ListComp elt [⟨tgt, iter, ifs, 0⟩] scope pos) spos) (tS X.K X.mg W ks (sSet i (eComp (own.map (·.2)) src tg t f))) := ps_imp (ps_setLc hc hN hy hyl hsw hi ok hg ht he hs) fun D σ H h => by
  obtain ⟨B, e, S, r, h⟩ := h
  refine comp_run (mg := X.mg) (W := W) hk ⟨B, e, S, r, h.bind.imp (fun o e' h v B' H' S' T vl f => ?_) fun _ _ z => ExS.toE z⟩
  exact h _ B' H' _ (vl.set i) (Kp.set hki) f.sets
theorem pts_y : PTs X [] (tT X.K X.mg W cYes) := ⟨fun pins s σ H Q I h => by
  obtain ⟨B, e, S, r, h⟩ := h
  exact pts_nil.run pins s σ H Q I (h B H S r (Fr.refl _ _ _))⟩
theorem pts_1 {c : Expr} {t : M Bool} (h : PT X c (tT X.K X.mg W t)) : PTs X [c] (tT X.K X.mg W t) := pts_one h
end
end Dn

namespace Dn
open PySem L2
open Evl (Ex)

/-! ## 16. Methods of texts and of lists that are read -/
def apM (chk : D → Bool) (g : List D → Option O) (p : P) (ps : List P) : M O := match p with
  | .b i => fun e => match e[i]? with
    | some (some o) => if chk o.d then ap g (.b i :: ps) e else none
    | _ => none
  | .v f => f.bind fun o => if chk o.d then ((ops ps).bind fun ds e => (g (o.d :: ds)).map fun r => .ok r e) else M.stuck
def isStr : D → Bool
  | .str _ => true
  | _ => false
def isLst : D → Bool
  | .lst _ => true
  | _ => false
section
variable {K : PySem.W.Frag} {mg : Str → Option Value} {W : WX} {B B' H H' : Hp} {σ : St}
theorem apM_run {C : V → Hp → Prop} {chk : D → Bool} {g : List D → Option O} {p : P} {ps : List P} {r : V → List V → Hp → VK → Prop} {Q : VK} (hC : ∀ B H v d, Ex B H → Rd K B H v d → chk d = true → C v H)
    (hs : ∀ (B H : Hp) (x : V) (vs : List V) (a : D) (ds : List D) (o : O), Ex B H → Rd K B H x a → RdL K B H vs ds → g (a :: ds) = some o → ∀ Q : VK, Giv K B H o Q → r x vs H Q)
    (h : tE K mg W (apM chk g p ps) σ H Q) : tP K mg W p σ H fun x H1 => C x H1 ∧ tPs K mg W ps σ H1 fun vs H2 => r x vs H2 Q := by
  obtain ⟨B, e, S, rp, h⟩ := h
  cases p with
  | b i =>
    unfold apM at h
    dsimp only at h
    cases q : e[i]? with
    | none => rw [q] at h; exact h.elim
    | some u =>
      cases u with
      | none => rw [q] at h; exact h.elim
      | some o =>
        rw [q] at h
        dsimp only at h
        obtain ⟨v, hv, ro⟩ := rp.rep i o q
        by_cases hc : chk o.d = true
        · rw [if_pos hc] at h
          refine ⟨v, hv, hC B H v _ rp.ex (ro.rd rp.ex) hc, ?_⟩
          have h1 := Post.bind (show Post (M.bind (ops (.b i :: ps)) (fun ds e => (g ds).map fun o => .ok o e) e) _ _ from h)
          unfold ops at h1
          rw [q] at h1
          dsimp only at h1
          refine ops_run ps _ rp (h1.bind.imp (fun ds e' h vs B' H' S' r' rl f => ?_) fun _ _ z => z)
          cases q' : e'[i]? with
          | none => rw [q'] at h; exact h.elim
          | some u' =>
            cases u' with
            | none => rw [q'] at h; exact h.elim
            | some o' =>
              rw [q'] at h
              obtain ⟨v', hv', ro'⟩ := r'.rep i o' q'
              rw [hv] at hv'; cases hv'
              obtain ⟨res, hr, h2⟩ := ap_end h
              exact hs B' H' v vs _ _ res r'.ex (ro'.rd r'.ex) rl hr Q (r'.giv fun v B2 H2 S2 T vl f2 => h2 v B2 H2 S2 T vl (f.trans f2))
        · rw [if_neg hc] at h; exact h.elim
  | v f =>
    refine ⟨B, e, S, rp, (show Post (M.bind f _ e) _ _ from h).bind.imp (fun o e1 h v B1 H1 S1 T vl f1 => ?_) fun _ _ z => z⟩
    by_cases hc : chk o.d = true
    · rw [if_pos hc] at h
      refine ⟨hC B1 H1 v _ vl.rp.ex (vl.ro.rd vl.rp.ex) hc, ?_⟩
      have f1' : Fr B H (tot S) B1 H1 (tot S1) := f1.imp (fun _ z => z) fun _ z => .inr z
      refine ops_run ps _ vl.rp (h.bind.imp (fun ds e' h vs B' H' S' r' rl f2 => ?_) fun x e' z => z.step f1')
      obtain ⟨res, hr, h2⟩ := ap_end h
      obtain ⟨ro, _, _⟩ := vl.ro.frame vl.own vl.dj f2
      exact hs B' H' v vs _ _ res r'.ex (ro.rd r'.ex) rl hr Q (r'.giv fun v B2 H2 S2 T vl f3 => h2 v B2 H2 S2 T vl ((f1'.trans f2).trans f3))
    · rw [if_neg hc] at h; exact h.elim
theorem chk_str {v : V} {d : D} (h : Rd K B H v d) (hc : isStr d = true) : ∃ a, v = .str a := by
  cases d with
  | str s => cases h; exact ⟨_, rfl⟩
  | _ => cases hc
theorem chk_lst {v : V} {d : D} (h : Rd K B H v d) (hc : isLst d = true) : tyV K "list" v H := by
  cases d with
  | lst s => obtain ⟨a, xs, rfl, h1, h2⟩ := h; exact .inl ⟨rfl, _, Evl.sq_of h1⟩
  | _ => cases hc
def SndM (K : PySem.W.Frag) (r : V → List V → Hp → VK → Prop) (g : List D → Option O) : Prop := ∀ (B H : Hp) (x : V) (vs : List V) (a : D) (ds : List D) (o : O), Ex B H → Rd K B H x a → RdL K B H vs ds → g (a :: ds) = some o → ∀ Q : VK, Giv K B H o Q → r x vs H Q
end
section
variable {X : Cx} {W : WX} {o e : Expr} {es : List Expr} {p q : P} {ps : List P} {G : List D → Option O} {id : String} {name : Str} {apos pos : Pos} {r : V → List V → Hp → VK → Prop}
theorem d_m1 (slot : Slot "str" name id) (ty : typeOf (.builtin id) = pure (.type "method_descriptor")) (rule : MtR X id r) (hs : SndM X.K r G) (ho : PE X o (tP X.K X.mg W p)) (he : PE X e (tP X.K X.mg W q))
    (hst : starEach [e] X.env = [(false, eval e X.env)] := by rfl) (hbase : attributeBase o name X.env (eval o X.env) = eval o X.env := by rfl) (hline : (apos.endLine == pos.line) = true := by rfl) :
    PE X (.Call (.Attribute o name apos) [e] [] pos) (tE X.K X.mg W (apM isStr G p [q])) := pe_imp (pe_m1 slot ty rule ho he hst hbase hline) fun σ H Q h => apM_run (fun B H v d _ h c => chk_str h c) hs h
theorem d_m0 (slot : Slot "str" name id) (ty : typeOf (.builtin id) = pure (.type "method_descriptor")) (rule : MtR X id r) (hs : SndM X.K r G) (ho : PE X o (tP X.K X.mg W p))
    (hbase : attributeBase o name X.env (eval o X.env) = eval o X.env := by rfl) (hline : (apos.endLine == pos.line) = true := by rfl) :
    PE X (.Call (.Attribute o name apos) [] [] pos) (tE X.K X.mg W (apM isStr G p [])) := pe_imp (pe_m0 slot ty rule ho hbase hline) fun σ H Q h => apM_run (fun B H v d _ h c => chk_str h c) hs h
end
def gJoin : List D → Option O
  | [.str a, .lst ds] => (strsD ds).bind fun ys => if (ys.map (·.length)).sum + ys.length * a.length ≤ 16777216 then some (sO (Txt.join a ys)) else none
  | _ => none
def gCount : List D → Option O
  | [.str a, .str b] => some (iO (Txt.count a b))
  | _ => none
def gStarts : List D → Option O
  | [.str a, .str b] => some (bO (Txt.startswith a b))
  | _ => none
def gRstrip : List D → Option O
  | [.str a, .str b] => if a.length ≤ sizeLine then some (sO (Txt.rstripChars a b)) else none
  | _ => none
def gSIndex : List D → Option O
  | [.str a, .str b] => match Builtin.Str.occurrences a b 0 a.length 1 with
    | i :: _ => some (iO (i : Nat))
    | [] => none
  | _ => none
def gSplit : List D → Option O
  | [.str a, .str b] => if (b.length == 0) = false ∧ a.length + 2 ≤ sizeLine then some (.lst ((Txt.split a b).map .str)) else none
  | _ => none
theorem RdL.nil' {K : PySem.W.Frag} {B H : Hp} {vs : List V} (h : RdL K B H vs []) : vs = [] := by cases h; rfl
theorem n_join {K : PySem.W.Frag} : SndM K (fun x xs H Q => ∃ a p, ∃ ys : List Str, x = .str a ∧ xs = [.ref p] ∧ (SqL K H p (ys.map V.str) ∨ SqT K H p (ys.map V.str)) ∧ (ys.map (·.length)).sum + ys.length * a.length ≤ 16777216 ∧ Q (.str (Txt.join a ys)) H) gJoin := fun B H x vs a ds o hx hr hl hg Q q => by
  unfold gJoin at hg
  split at hg
  · rename_i h; cases h
    obtain ⟨ys, e1, hg⟩ := Option.bind_eq_some_iff.mp hg
    split at hg
    · rename_i hz
      cases hg; cases hr
      obtain ⟨v, rfl, rv⟩ := hl.one
      obtain ⟨p, xs, rfl, h1, h2⟩ := rv
      rw [strsD_map e1] at h2
      rw [repL_of_strs h2] at h1
      exact ⟨_, _, ys, rfl, rfl, .inl (Evl.sq_of h1), hz, q.fr hx (.str _)⟩
    · cases hg
  · cases hg
theorem n_count {K : PySem.W.Frag} : SndM K (fun x xs H Q => ∃ a b, x = .str a ∧ xs = [.str b] ∧ Q (.int (Txt.count a b)) H) gCount := fun B H x vs a ds o hx hr hl hg Q q => by
  unfold gCount at hg
  split at hg
  · rename_i h; cases h; cases hg; cases hr
    obtain ⟨v, rfl, rv⟩ := hl.one
    cases rv
    exact ⟨_, _, rfl, rfl, q.fr hx (.int _)⟩
  · cases hg
theorem n_starts {K : PySem.W.Frag} : SndM K (fun x xs H Q => ∃ a b, x = .str a ∧ xs = [.str b] ∧ Q (.bl (Txt.startswith a b)) H) gStarts := fun B H x vs a ds o hx hr hl hg Q q => by
  unfold gStarts at hg
  split at hg
  · rename_i h; cases h; cases hg; cases hr
    obtain ⟨v, rfl, rv⟩ := hl.one
    cases rv
    exact ⟨_, _, rfl, rfl, q.fr hx (.bl _)⟩
  · cases hg
theorem n_rstrip {K : PySem.W.Frag} : SndM K (fun x xs H Q => ∃ a b, x = .str a ∧ xs = [.str b] ∧ a.length ≤ sizeLine ∧ Q (.str (Txt.rstripChars a b)) H) gRstrip := fun B H x vs a ds o hx hr hl hg Q q => by
  unfold gRstrip at hg
  split at hg
  · rename_i h; cases h
    split at hg
    · rename_i hz
      cases hg; cases hr
      obtain ⟨v, rfl, rv⟩ := hl.one
      cases rv
      exact ⟨_, _, rfl, rfl, hz, q.fr hx (.str _)⟩
    · cases hg
  · cases hg
theorem n_sindex {K : PySem.W.Frag} : SndM K (fun x xs H Q => ∃ a b i rest, x = .str a ∧ xs = [.str b] ∧ Builtin.Str.occurrences a b 0 a.length 1 = i :: rest ∧ Q (.int (i : Nat)) H) gSIndex := fun B H x vs a ds o hx hr hl hg Q q => by
  unfold gSIndex at hg
  split at hg
  · rename_i h; cases h
    split at hg
    · rename_i i rest hz
      cases hg; cases hr
      obtain ⟨v, rfl, rv⟩ := hl.one
      cases rv
      exact ⟨_, _, i, rest, rfl, rfl, hz, q.fr hx (.int _)⟩
    · cases hg
  · cases hg
theorem n_split {K : PySem.W.Frag} : SndM K (fun x xs H Q => ∃ a b, x = .str a ∧ xs = [.str b] ∧ (b.length == 0) = false ∧ a.length + 2 ≤ sizeLine ∧ rNewStrs (Txt.split a b) H Q) gSplit := fun B H x vs a ds o hx hr hl hg Q q => by
  unfold gSplit at hg
  split at hg
  · rename_i h; cases h
    split at hg
    · rename_i hz
      cases hg; cases hr
      obtain ⟨v, rfl, rv⟩ := hl.one
      cases rv
      exact ⟨_, _, rfl, rfl, hz.1, hz.2, fun p hp => q.newL hx (repL_strs _) hp⟩
    · cases hg
  · cases hg

/-! ## 17. isinstance with a built-in class -/
def isi (T : String) : D → Option Bool
  | .non => kitB "NoneType" T
  | .bl _ => kitB "bool" T
  | .int _ => kitB "int" T
  | .str _ => kitB "str" T
  | .lst _ => kitB "list" T
  | .scr _ => kitB "list" T
  | .tup _ => kitB "tuple" T
  | _ => none
def gIsi (T : String) : List D → Option O
  | [d] => (isi T d).map bO
  | _ => none
theorem tyx_lst {K : PySem.W.Frag} {H : Hp} {a : Addr} {xs : List V} (h : SqL K H a xs) : TyX K H (.ref a) (.type "list") := by
  rcases h with (h | ⟨o, h⟩) | ⟨o, its, n, h, c, _⟩
  · exact .base (.lst h)
  · exact .base (.frz h)
  · exact .kList h c
theorem tyx_tup {K : PySem.W.Frag} {H : Hp} {a : Addr} {xs : List V} (h : SqT K H a xs) : TyX K H (.ref a) (.type "tuple") := by
  rcases h with (h | ⟨o, h⟩) | ⟨o, its, n, h, c, _⟩
  · exact .base (.tup h)
  · exact .fTuple h
  · exact .kTuple h c
theorem n_isi {K : PySem.W.Frag} {T : String} : SndN K (fun vs H Q => rIsi K (vs ++ [.ty T]) H Q) (gIsi T) := fun B H vs ds o hx hr hg Q q => by
  unfold gIsi at hg
  split at hg
  · obtain ⟨b, hb, rfl⟩ := Option.map_eq_some_iff.mp hg
    obtain ⟨v, rfl, rv⟩ := hr.one
    rename_i d
    have go : ∀ t, TyX K H v (.type t) → kitB t T = some b → rIsi K ([v] ++ [.ty T]) H Q := fun t ty e => ⟨v, _, _, _, b, rfl, .ty T, ty, kit_ty e, q.fr hx (.bl _)⟩
    cases d with
    | non => cases rv; exact go _ (.base .non) hb
    | bl _ => cases rv; exact go _ (.base (.bl _)) hb
    | int _ => cases rv; exact go _ (.base (.int _)) hb
    | str _ => cases rv; exact go _ (.base (.str _)) hb
    | lst _ => obtain ⟨a, xs, rfl, h1, h2⟩ := rv; exact go _ (tyx_lst (Evl.sq_of h1)) hb
    | tup _ => cases rv with
      | tup h1 h2 => exact go _ (tyx_tup (Evl.ex_t hx h1.sq)) hb
    | scr _ => cases rv with
      | scr h1 => exact go _ (tyx_lst (Evl.ex_l hx h1)) hb
    | opq => cases hb
    | dct _ _ => cases hb
    | ins _ _ _ => cases hb
  · cases hg
section
variable {X : Cx} {W : WX} {e : Expr} {p : P} {p1 p2 pos : Pos} {T : String}
theorem d_isi {x : Str} (hg : Gl X "isinstance") (hm : X.mg "isinstance" = none) (hgT : Gl X x) (hmT : X.mg x = none) (hvT : bootBuiltins x = some (.type T)) (hv : bootBuiltins "isinstance" = some (.builtin "isinstance")) (ha : PE X e (tP X.K X.mg W p)) (hn : x ≠ "__name__" := by decide) (hdb : (x == ("__debug__" : Str)) = false := by decide)
    (hs1 : starEach (e :: [.Name x p2]) X.env = (false, eval e X.env) :: starEach [.Name x p2] X.env := by rfl) (hs2 : starEach (.Name x p2 :: []) X.env = (false, eval (.Name x p2) X.env) :: starEach [] X.env := by rfl)
    (hpl : (backTo pos (starEach [.Name x p2] X.env)).any (·.1) = false := by rfl) : PE X (.Call (.Name "isinstance" p1) [e, .Name x p2] [] pos) (tE X.K X.mg W (ap (gIsi T) [p])) :=
  pe_imp (pe_callB call_isi hg hm hv (pa_cons ha (pa_cons (pe_bltn hgT hmT hvT (v := .ty T) rfl hn hdb) pa_nil hs2) hs1) (by decide) (by decide) hs1 hpl) fun _ _ _ h => apN_run (n_isi) _ h
end

/-! ## 18. Slices -/
def cutD {α : Type} (xs : List α) (lo hi : Option Int) : List α := (xs.drop (HT.sIx xs.length 0 lo)).take (HT.sIx xs.length xs.length hi - HT.sIx xs.length 0 lo)
def eI (f : M O) : M O := f.bind fun o => match o with
  | .fr (.int i) => M.pure (.fr (.int i))
  | _ => M.stuck
def gRevS : List D → Option O
  | [.lst ds] => some (.lst ds.reverse)
  | _ => none
def slD (d : D) (lo hi : Option Int) : Option O := match d with
  | .lst ds => some (.lst (cutD ds lo hi))
  | .tup ds => some (.fr (.tup (cutD ds lo hi)))
  | .scr ns => some (.lst ((cutD ns lo hi).map .int))
  | .str z => if z.length ≤ sizeLine then some (sO (cutS z lo hi)) else none
  | _ => none
def parts (lo hi : Bool) : List D → Option (D × Option Int × Option Int)
  | d :: ds => match lo, hi, ds with
    | false, false, [] => some (d, none, none)
    | true, false, [.int i] => some (d, some i, none)
    | false, true, [.int j] => some (d, none, some j)
    | true, true, [.int i, .int j] => some (d, some i, some j)
    | _, _, _ => none
  | _ => none
def gSl (lo hi : Bool) (ds : List D) : Option O := (parts lo hi ds).bind fun x => slD x.1 x.2.1 x.2.2
def rSlO (K : PySem.W.Frag) : V → Option Int → Option Int → Hp → VK → Prop := fun x lo hi H Q => rSlL K x lo hi H Q ∨ rSlA K x lo hi H Q ∨ rSlS x lo hi H Q
theorem sl_any {X : Cx} : SlR X (rSlO X.K) := sl_list.or (sl_tupA.or sl_str)
theorem cut_rep {K : PySem.W.Frag} {B : Hp} {xs : List V} {ds : List D} {lo hi : Option Int} (h : RepL K B xs ds) : RepL K B (cutV xs lo hi) (cutD ds lo hi) := by
  unfold cutV cutD
  rw [h.length]
  exact (h.drop _).take _
theorem cut_ints (ns : List Int) (lo hi : Option Int) : cutV (ns.map V.int) lo hi = (cutD ns lo hi).map V.int := by
  unfold cutV cutD
  rw [List.length_map, List.map_take, List.map_drop]
theorem slD_run {K : PySem.W.Frag} {B H : Hp} {x : V} {d : D} {lo hi : Option Int} {o : O} {Q : VK} (hx : Ex B H) (h : Rd K B H x d) (e : slD d lo hi = some o) (q : Giv K B H o Q) : rSlO K x lo hi H Q := by
  unfold slD at e
  split at e
  · cases e
    obtain ⟨a, xs, rfl, h1, h2⟩ := h
    exact .inl ⟨_, _, rfl, Evl.sq_of h1, fun p hp => q.newL hx (cut_rep h2) hp⟩
  · cases e
    cases h with
    | tup h1 h2 =>
      rename_i xs
      refine .inr (.inl ⟨_, _, rfl, Evl.ex_t hx h1.sq, fun hw => ?_, fun _ p hp => q.newT hx (cut_rep h2) hp⟩)
      refine q.fr hx (.tup h1 ?_)
      have e2 := cut_rep (lo := lo) (hi := hi) h2
      have e3 : cutV xs lo hi = xs := by
        unfold cutV
        rw [hw.1, hw.2, List.drop_zero, Nat.sub_zero, List.take_length]
      rw [e3] at e2
      exact e2
  · cases e
    cases h with
    | scr h1 => exact .inl ⟨_, _, rfl, Evl.ex_l hx h1, fun p hp => by rw [cut_ints]; exact q.newL hx (repL_ints _) hp⟩
  · split at e
    · rename_i hl
      cases e; cases h
      exact .inr (.inr ⟨_, rfl, hl, q.fr hx (.str _)⟩)
    · cases e
  · cases e
section
variable {X : Cx} {W : WX} {e a b : Expr} {p q u : P} {p2 pos : Pos}
theorem d_sl00 (h : PE X e (tP X.K X.mg W p)) : PE X (.Subscript e (.Slice none none none p2) pos) (tE X.K X.mg W (ap (gSl false false) [p])) := pe_imp (pe_slice sl_any h po_none po_none) fun σ H Q h =>
  ap1_run (r := fun x H Q => rSlO X.K x none none H Q) (fun B H x a o hx hr hg Q q => slD_run hx hr hg q) Q h
theorem d_sl10 (h : PE X e (tP X.K X.mg W p)) (ha : PE X a (tP X.K X.mg W q)) : PE X (.Subscript e (.Slice (some a) none none p2) pos) (tE X.K X.mg W (ap (gSl true false) [p, q])) := pe_imp (pe_slice sl_any h (po_some ha) po_none) fun σ H Q h =>
  ap2_run (r := fun x y H Q => ∃ i, y = .int i ∧ rSlO X.K x (some i) none H Q) (fun B H x y a b o hx hr hr2 hg Q q => by
    cases b with
    | int i => cases hr2; exact ⟨i, rfl, slD_run hx hr hg q⟩
    | _ => cases hg) Q h
theorem d_sl01 (h : PE X e (tP X.K X.mg W p)) (ha : PE X a (tP X.K X.mg W q)) : PE X (.Subscript e (.Slice none (some a) none p2) pos) (tE X.K X.mg W (ap (gSl false true) [p, q])) := pe_imp (pe_slice sl_any h po_none (po_some ha)) fun σ H Q h =>
  ap2_run (r := fun x y H Q => ∃ i, y = .int i ∧ rSlO X.K x none (some i) H Q) (fun B H x y a b o hx hr hr2 hg Q q => by
    cases b with
    | int i => cases hr2; exact ⟨i, rfl, slD_run hx hr hg q⟩
    | _ => cases hg) Q h
theorem eI_fact {K : PySem.W.Frag} {mg : Str → Option Value} {W : WX} {σ : St} {H : Hp} {f : M O} {Q : VK} (h : tE K mg W (eI f) σ H Q) : tE K mg W (eI f) σ H fun y H' => (∃ i, y = .int i) ∧ Q y H' := by
  obtain ⟨B, e, S, r, h⟩ := h
  unfold eI at h ⊢
  refine ⟨B, e, S, r, ?_⟩
  have h1 := h.bind
  show Post (M.bind f _ e) _ _
  unfold M.bind
  cases q : f e with
  | none => rw [q] at h1; exact h1
  | some ro =>
    rw [q] at h1
    cases ro with
    | ex x e' => exact h1
    | ok o e' =>
      cases o with
      | lst _ => exact h1.elim
      | dct _ _ => exact h1.elim
      | ins _ _ _ => exact h1.elim
      | exn _ _ _ => exact h1.elim
      | tr _ => exact h1.elim
      | fr d =>
        cases d with
        | int i => exact fun v B' H' S' T vl f => ⟨by have := vl.ro.1; cases this; exact ⟨i, rfl⟩, (show ∀ v B' H' S' T, Vl K B' H' σ e' S' v (.fr (.int i)) T → Fr B H (tot S) B' H' (fun a => T a ∨ tot S' a) → Q v H' from h1) v B' H' S' T vl f⟩
        | _ => exact h1.elim
theorem tP_mono {K : PySem.W.Frag} {mg : Str → Option Value} {W : WX} (p : P) (σ : St) (H : Hp) (Q Q' : VK) (hq : ∀ v H, Q v H → Q' v H) (t : tP K mg W p σ H Q) : tP K mg W p σ H Q' := by
  cases p with
  | b i => obtain ⟨v, e, q⟩ := t; exact ⟨v, e, hq _ _ q⟩
  | v f => obtain ⟨B, e, S, r, t⟩ := t; exact ⟨B, e, S, r, t.imp (fun o e' h v B' H' S' T vl f => hq _ _ (h v B' H' S' T vl f)) fun _ _ z => z⟩
theorem d_I {f : M O} (h : PE X e (tE X.K X.mg W f)) : PE X e (tE X.K X.mg W (eI f)) := pe_imp h fun σ H Q h => by
  obtain ⟨B, e, S, r, h⟩ := h
  refine ⟨B, e, S, r, h.bind.imp (fun o e' h => ?_) fun _ _ z => z⟩
  cases o with
  | lst _ => exact h.elim
  | dct _ _ => exact h.elim
  | ins _ _ _ => exact h.elim
  | exn _ _ _ => exact h.elim
  | tr _ => exact h.elim
  | fr d => cases d with
    | int i => exact h
    | _ => exact h.elim
theorem d_sl11 {f g : M O} (h : PE X e (tP X.K X.mg W p)) (ha : PE X a (tE X.K X.mg W f)) (hb : PE X b (tE X.K X.mg W g)) : PE X (.Subscript e (.Slice (some a) (some b) none p2) pos) (tE X.K X.mg W (ap (gSl true true) [p, .v (eI f), .v (eI g)])) := pe_imp (pe_slice sl_any h (po_some (d_I ha)) (po_some (d_I hb))) fun σ H Q h => by
  have key : tP X.K X.mg W p σ H fun x H1 => tE X.K X.mg W (eI f) σ H1 fun y H2 => tE X.K X.mg W (eI g) σ H2 fun z H3 => ∀ x' y' z', [x, y, z] = [x', y', z'] → ∀ i j, y' = .int i → z' = .int j → rSlO X.K x' (some i) (some j) H3 Q :=
    apN_run (r := fun vs H Q => ∀ x y z, vs = [x, y, z] → ∀ i j, y = .int i → z = .int j → rSlO X.K x (some i) (some j) H Q) (fun B H vs ds o hx hr hg Q q x y z ev i j ei ej => by
    subst ev
    subst ei
    subst ej
    cases hr with
    | cons h1 hr => cases hr with
      | cons h2 hr => cases hr with
        | cons h3 hr =>
          cases hr
          rename_i d1 d2 d3
          have e2 : d2 = .int i := by cases d2 <;> first | (cases h2; done) | (rcases h2 with ⟨_, _, _, _, z, _⟩; exact V.noConfusion z) | (obtain ⟨_, _, z, _⟩ := h2; cases z; done) | (cases h2; rfl) | (have z : (none : Option O) = some o := hg; cases z)
          subst e2
          have e3 : d3 = .int j := by cases d3 <;> first | (cases h3; done) | (rcases h3 with ⟨_, _, _, _, z, _⟩; exact V.noConfusion z) | (obtain ⟨_, _, z, _⟩ := h3; cases z; done) | (cases h3; rfl) | (have z : (none : Option O) = some o := hg; cases z)
          subst e3
          exact slD_run hx h1 hg q) Q h
  refine tP_mono _ _ _ _ _ (fun x H1 t => ?_) key
  refine tP_mono (.v (eI f)) _ _ _ _ (fun y H2 t => ?_) (eI_fact t)
  obtain ⟨⟨i, rfl⟩, t⟩ := t
  refine ⟨i, rfl, tP_mono (.v (eI g)) _ _ _ _ (fun z H3 t => ?_) (eI_fact t)⟩
  obtain ⟨⟨j, rfl⟩, t⟩ := t
  exact ⟨j, rfl, t _ _ _ rfl i j rfl rfl⟩
theorem d_rev {k : Nat} {p1 p3 : Pos} (h : PE X e (tP X.K X.mg W p)) : PE X (.Subscript e (.Slice none none (some (.UnaryOp .USub (.Constant (.int 1) k p1) p2)) p3) pos) (tE X.K X.mg W (ap gRevS [p])) := pe_imp (pe_revL h) fun σ H Q h =>
  ap1_run (r := fun x H Q => ∃ a xs, x = .ref a ∧ SqL X.K H a xs ∧ ∀ p, H p = none → Q (.ref p) (upd H p (.lst xs.reverse))) (fun B H x a o hx hr hg Q q => by
    cases a with
    | lst ds =>
      cases hg
      obtain ⟨a, xs, rfl, h1, h2⟩ := hr
      exact ⟨_, _, rfl, Evl.sq_of h1, fun p hp => q.newL hx h2.reverse hp⟩
    | _ => cases hg) Q h
end
end Dn

namespace Dn
open PySem L2
open Evl (Ex)

/-! ## 19. A list of one's own, changed in place -/
def eMut1 (g : List D → D → Option (D × List D)) (i : Nat) (f : M O) : M O := fun e => match e[i]? with
  | some (some (.lst _)) => (f.bind fun o e' => match e'[i]? with
    | some (some (.lst ds)) => (match g ds o.d with
      | some (r, ds') => some (.ok (.fr r) (e'.set i (some (.lst ds'))))
      | none => none)
    | _ => none) e
  | _ => none
def eMut0 (g : List D → Option (D × List D)) (i : Nat) : M O := fun e => match e[i]? with
  | some (some (.lst ds)) => (match g ds with
    | some (r, ds') => some (.ok (.fr r) (e.set i (some (.lst ds'))))
    | none => none)
  | _ => none
def gApp (ds : List D) (d : D) : Option (D × List D) := if ds.length < sizeLine then some (.non, ds ++ [d]) else none
def gPop0 (ds : List D) (d : D) : Option (D × List D) := match d with
  | .int i => if -(2 ^ 63) ≤ i ∧ i < 2 ^ 63 then (ixN ds.length i).bind fun k => (ds[k]?).map fun y => (y, ds.eraseIdx k) else none
  | _ => none
def gPop (ds : List D) : Option (D × List D) := (ds[ds.length - 1]?).map fun y => (y, ds.dropLast)
def gExt (ds : List D) (d : D) : Option (D × List D) := match d with
  | .lst es => if ds.length + es.length ≤ sizeLine then some (.non, ds ++ es) else none
  | _ => none
def gRev (ds : List D) : Option (D × List D) := some (.non, ds.reverse)
def sSetIx (i : Nat) (fk fv : M O) : M Fl := fv.bind fun o e1 => match e1[i]? with
  | some (some (.lst _)) => (fk.bind fun k e => match e[i]? with
    | some (some (.lst ds)) => (match k with
      | .fr (.int j) => (match ixN ds.length j with
        | some n => some (.ok .next (e.set i (some (.lst (ds.set n o.d)))))
        | none => none)
      | _ => none)
    | _ => none) e1
  | _ => none

section
variable {K : PySem.W.Frag} {mg : Str → Option Value} {W : WX} {B B' H H' : Hp} {v : V} {o : O} {σ σ' : St} {e e' : Sl} {S S' : Nat → Addr → Prop} {T T' : Addr → Prop}
theorem Rp.mut (r : Rp K B H σ e S) {i : Nat} {l : Addr} {xs xs' : List V} {ds ds' : List D} (he : e[i]? = some (some (.lst ds))) (hσ : σ[i]? = some (some (.ref l))) (hl : H l = some (.lst xs)) (hr : RepL K B xs' ds') :
    Rp K B (L2.upd H l (.lst xs')) σ (e.set i (some (.lst ds'))) S ∧ Fr B H (tot S) B (L2.upd H l (.lst xs')) (tot S) := by
  obtain ⟨v, hv, p, ys, e1, h2, h3, h4⟩ := r.rep i _ he
  rw [hσ] at hv; cases hv
  cases e1
  have hS : S i l := (h4 l).mpr rfl
  have hb := (r.own i l hS).1
  have hlen : i < e.length := (List.getElem?_eq_some_iff.mp he).1
  refine ⟨⟨by rw [List.length_set]; exact r.len, fun a o ha => ?_, fun j o ho => ?_, r.dis, fun j a ha => ⟨(r.own j a ha).1, ?_⟩⟩, Fr.upd hl ⟨i, hS⟩⟩
  · rw [upd_ne (fun z => by subst z; rw [hb] at ha; cases ha)]; exact r.ex a o ha
  · by_cases hj : j = i
    · subst hj
      rw [List.getElem?_set_self hlen] at ho
      cases ho
      exact ⟨_, hσ, l, xs', rfl, upd_same, hr, h4⟩
    · rw [List.getElem?_set_ne (Ne.symm hj)] at ho
      obtain ⟨v, a1, a2⟩ := r.rep j o ho
      refine ⟨v, a1, ?_⟩
      cases o with
      | fr d => exact a2
      | lst es =>
        obtain ⟨q, zs, b1, b2, b3, b4⟩ := a2
        refine ⟨q, zs, b1, ?_, b3, b4⟩
        rw [upd_ne (fun z => by subst z; exact hj (r.dis j i q ((b4 q).mpr rfl) hS))]
        exact b2
      | dct es =>
        obtain ⟨q, zs, b1, b2, bk, b3, b4⟩ := a2
        refine ⟨q, zs, b1, ?_, bk, b3, b4⟩
        rw [upd_ne (fun z => by subst z; exact hj (r.dis j i q ((b4 q).mpr rfl) hS))]
        exact b2
      | ins c ns es =>
        obtain ⟨q, C, dx, zs, b1, b2, bc, bk, b3, b4⟩ := a2
        refine ⟨q, C, dx, zs, b1, ?_, bc, bk, b3, b4⟩
        rw [upd_ne (fun z => by subst z; exact hj (r.dis j i q ((b4 q).mpr rfl) hS))]
        exact b2
      | exn a d x => exact a2
      | tr t => exact RepT.frame (Ex.refl B) a2 fun a o z q => by rw [upd_ne (show a ≠ l from fun y => hj (r.dis j i a z (by rw [y]; exact hS)))]; exact q
  · by_cases hp : a = l
    · exact ⟨_, by rw [hp]; exact upd_same⟩
    · obtain ⟨_, o, h⟩ := r.own j a ha
      exact ⟨o, by rw [upd_ne hp]; exact h⟩
def Mu1 (K : PySem.W.Frag) (r : V → List V → Hp → VK → Prop) (g : List D → D → Option (D × List D)) : Prop := ∀ (B H : Hp) (l : Addr) (xs : List V) (ds : List D) (y : V) (d res : D) (ds' : List D), Ex B H → H l = some (.lst xs) → RepL K B xs ds → Rep K B y d → g ds d = some (res, ds') →
  ∀ Q : VK, (∀ rv xs', RepL K B xs' ds' → Rep K B rv res → Q rv (L2.upd H l (.lst xs'))) → r (.ref l) [y] H Q
def Mu0 (K : PySem.W.Frag) (r : V → List V → Hp → VK → Prop) (g : List D → Option (D × List D)) : Prop := ∀ (B H : Hp) (l : Addr) (xs : List V) (ds : List D) (res : D) (ds' : List D), Ex B H → H l = some (.lst xs) → RepL K B xs ds → g ds = some (res, ds') →
  ∀ Q : VK, (∀ rv xs', RepL K B xs' ds' → Rep K B rv res → Q rv (L2.upd H l (.lst xs'))) → r (.ref l) [] H Q
theorem fz_fr {S1 : Nat → Addr → Prop} {B1 H1 B2 : Hp} (f1 : Fr B H (tot S) B1 H1 (fun a => T a ∨ tot S1 a)) (f2 : Fr B1 H1 T B2 H1 noS) : Fr B H (tot S) B2 H1 (tot S1) :=
  f1.trans ⟨f2.b, fun a o q _ => q, fun a z => .inl (.inr z), fun a u q => (f2.c a u q).elim .inl fun z => .inr (z.elim (fun z => .inl (.inl z)) .inr), fun a o q => ⟨o, q⟩⟩
theorem mut1_run {r : V → List V → Hp → VK → Prop} {g : List D → D → Option (D × List D)} {i : Nat} {f : M O} {Q : VK} (hs : Mu1 K r g) (h : tE K mg W (eMut1 g i f) σ H Q) :
    tVar i σ H fun x H1 => tyV K "list" x H1 ∧ tCons (tE K mg W f) tNil σ H1 fun vs H2 => r x vs H2 Q := by
  obtain ⟨B, e, S, rp, h⟩ := h
  unfold eMut1 at h
  cases q : e[i]? with
  | none => rw [q] at h; exact h.elim
  | some u =>
    cases u with
    | none => rw [q] at h; exact h.elim
    | some o =>
      rw [q] at h
      cases o with
      | fr d => exact h.elim
      | dct _ _ => exact h.elim
      | ins _ _ _ => exact h.elim
      | exn _ _ _ => exact h.elim
      | tr _ => exact h.elim
      | lst ds =>
        obtain ⟨v, hv, p, ys, e1, h2, h3, h4⟩ := rp.rep i _ q
        subst e1
        refine ⟨_, hv, .inl ⟨rfl, _, Evl.sq_of h2⟩, B, e, S, rp, (show Post (M.bind f _ e) _ _ from h).bind.imp (fun o e1 h v1 B1 H1 S1 T vl f1 => ?_) fun _ _ z => z⟩
        obtain ⟨B2, vl2, f2⟩ := vl.freeze
        have f3 := fz_fr f1 f2
        show r (.ref p) [v1] H1 Q
        cases q1 : e1[i]? with
        | none => rw [q1] at h; exact h.elim
        | some u1 =>
          cases u1 with
          | none => rw [q1] at h; exact h.elim
          | some o1 =>
            rw [q1] at h
            cases o1 with
            | fr d => exact h.elim
            | dct _ _ => exact h.elim
            | ins _ _ _ => exact h.elim
            | exn _ _ _ => exact h.elim
            | tr _ => exact h.elim
            | lst ds1 =>
              dsimp only at h
              cases qg : g ds1 o.d with
              | none => rw [qg] at h; exact h.elim
              | some rr =>
                obtain ⟨res, ds'⟩ := rr
                rw [qg] at h
                obtain ⟨v', hv', p', ys', e1', k2, k3, k4⟩ := vl2.rp.rep i _ q1
                rw [hv] at hv'; cases hv'
                cases e1'
                refine hs B2 H1 p ys' ds1 v1 _ res ds' vl2.rp.ex k2 k3 vl2.ro.1 qg Q fun rv xs' hx hrv => ?_
                obtain ⟨r4, f4⟩ := vl2.rp.mut q1 hv k2 hx
                exact (show ∀ v B' H' S' T, Vl K B' H' σ _ S' v (.fr res) T → Fr B H (tot S) B' H' (fun a => T a ∨ tot S' a) → Q v H' from h) rv B2 _ S1 noS (.fr r4 hrv) ((f3.trans f4).imp (fun _ z => z) fun a z => z.elim (fun z => z.elim) id)
theorem mut0_run {r : V → List V → Hp → VK → Prop} {g : List D → Option (D × List D)} {i : Nat} {Q : VK} (hs : Mu0 K r g) (h : tE K mg W (eMut0 g i) σ H Q) :
    tVar i σ H fun x H1 => tyV K "list" x H1 ∧ r x [] H1 Q := by
  obtain ⟨B, e, S, rp, h⟩ := h
  unfold eMut0 at h
  cases q : e[i]? with
  | none => rw [q] at h; exact h.elim
  | some u =>
    cases u with
    | none => rw [q] at h; exact h.elim
    | some o =>
      rw [q] at h
      cases o with
      | fr d => exact h.elim
      | dct _ _ => exact h.elim
      | ins _ _ _ => exact h.elim
      | exn _ _ _ => exact h.elim
      | tr _ => exact h.elim
      | lst ds =>
        obtain ⟨v, hv, p, ys, e1, h2, h3, h4⟩ := rp.rep i _ q
        subst e1
        refine ⟨_, hv, .inl ⟨rfl, _, Evl.sq_of h2⟩, ?_⟩
        dsimp only at h
        cases qg : g ds with
        | none => rw [qg] at h; exact h.elim
        | some rr =>
          obtain ⟨res, ds'⟩ := rr
          rw [qg] at h
          refine hs B H p ys ds res ds' rp.ex h2 h3 qg Q fun rv xs' hx hrv => ?_
          obtain ⟨r4, f4⟩ := rp.mut q hv h2 hx
          exact (show ∀ v B' H' S' T, Vl K B' H' σ _ S' v (.fr res) T → Fr B H (tot S) B' H' (fun a => T a ∨ tot S' a) → Q v H' from h) rv B _ S noS (.fr r4 hrv) (f4.imp (fun _ z => z) fun a z => z.elim (fun z => z.elim) id)
theorem u_app : Mu1 K rAppend gApp := fun B H l xs ds y d res ds' hx hl hr hy hg Q q => by
  unfold gApp at hg
  split at hg
  · rename_i hz
    cases hg
    exact ⟨l, xs, y, rfl, rfl, hl, by rw [hr.length]; exact hz, q .non _ (hr.append (.one hy)) .non⟩
  · cases hg
theorem u_pop0 : Mu1 K rPopAt gPop0 := fun B H l xs ds y d res ds' hx hl hr hy hg Q q => by
  unfold gPop0 at hg
  split at hg
  · rename_i i
    split at hg
    · rename_i hz
      obtain ⟨k, hk, hg⟩ := Option.bind_eq_some_iff.mp hg
      obtain ⟨z, hz2, e2⟩ := Option.map_eq_some_iff.mp hg
      cases e2; cases hy
      obtain ⟨v, hv, rv⟩ := hr.get hz2
      exact ⟨l, xs, i, k, v, rfl, rfl, hl, hz.1, hz.2, by rw [hr.length]; exact (ixN_seq hk).1, hv, q v _ (hr.erase k) rv⟩
    · cases hg
  · cases hg
theorem RepL.dropLast {xs : List V} {ds : List D} (h : RepL K B xs ds) : RepL K B xs.dropLast ds.dropLast := by
  rw [List.dropLast_eq_take, List.dropLast_eq_take, h.length]
  exact h.take _
theorem u_pop : Mu0 K rPop gPop := fun B H l xs ds res ds' hx hl hr hg Q q => by
  obtain ⟨z, hz2, e2⟩ := Option.map_eq_some_iff.mp hg
  cases e2
  obtain ⟨v, hv, rv⟩ := hr.get hz2
  exact ⟨l, xs, v, rfl, rfl, hl, by rw [hr.length]; exact hv, q v _ hr.dropLast rv⟩
theorem u_rev : Mu0 K rReverse gRev := fun B H l xs ds res ds' hx hl hr hg Q q => by
  cases hg
  exact ⟨l, xs, rfl, rfl, hl, q .non _ hr.reverse .non⟩
theorem u_ext : Mu1 K rExtend gExt := fun B H l xs ds y d res ds' hx hl hr hy hg Q q => by
  unfold gExt at hg
  split at hg
  · split at hg
    · rename_i hz
      cases hg
      cases hy with
      | lst h1 h2 => exact ⟨l, _, xs, _, rfl, rfl, hl, hx _ _ h1, by rw [hr.length, h2.length]; exact hz, q .non _ (hr.append h2) .non⟩
    · cases hg
  · cases hg
end
section
variable {X : Cx} {W : WX} {e k : Expr} {f g : M O} {i : Nat} {x name : Str} {id : String} {p apos pos : Pos} {r : V → List V → Hp → VK → Prop}
theorem d_mut1 {G : List D → D → Option (D × List D)} (hv : PE X (.Name x p) (tVar i)) (slot : Slot "list" name id) (hty : typeOf (.builtin id) = pure (.type "method_descriptor")) (hm : MtR X id r) (hs : Mu1 X.K r G) (he : PE X e (tE X.K X.mg W f))
    (hbase : attributeBase (.Name x p) name X.env (eval (.Name x p) X.env) = eval (.Name x p) X.env := by rfl)
    (hfew : ((backTo pos (starEach (e :: []) X.env)).all (fun x => !x.1) && (backToKw pos (keywordEach [] X.env)).all (fun x => x.1.isSome)
      && decide ((e :: []).length + ([] : List Keyword).length + (if ([] : List Keyword).isEmpty then 0 else 1) < 30)) = true := by rfl)
    (hline : (apos.endLine == pos.line) = true := by rfl) (hst : starEach (e :: []) X.env = (false, eval e X.env) :: starEach [] X.env := by rfl) (hpl : (backTo pos (starEach [] X.env)).any (·.1) = false := by rfl) :
    PE X (.Call (.Attribute (.Name x p) name apos) [e] [] pos) (tE X.K X.mg W (eMut1 G i f)) := pe_imp (pe_bm PySem.F.plainAttrs_list slot hty hm hv (pa_cons he pa_nil hst) hbase hfew hline hst hpl) fun σ H Q h => mut1_run hs h
theorem d_mut0 {G : List D → Option (D × List D)} (hv : PE X (.Name x p) (tVar i)) (slot : Slot "list" name id) (hty : typeOf (.builtin id) = pure (.type "method_descriptor")) (hm : MtR X id r) (hs : Mu0 X.K r G)
    (hbase : attributeBase (.Name x p) name X.env (eval (.Name x p) X.env) = eval (.Name x p) X.env := by rfl) (hline : (apos.endLine == pos.line) = true := by rfl) :
    PE X (.Call (.Attribute (.Name x p) name apos) [] [] pos) (tE X.K X.mg W (eMut0 G i)) := pe_imp (pe_bm0 PySem.F.plainAttrs_list slot hty hm hv hbase hline) fun σ H Q h => mut0_run hs h
theorem s_setIx {ks : List Nat} {p2 : Pos} (hv : PE X (.Name x p) (tVar i)) (hk : PE X k (tE X.K X.mg W f)) (he : PE X e (tE X.K X.mg W g))
    (ha : ∀ v, assign (.Subscript (.Name x p) k p2) X.env v = (do
      let ov ← holding [v] (eval (.Name x p) X.env)
      let iv ← holding [v, ov] (eval k X.env)
      standAt p2
      holding [v, ov, iv] (setItem ov iv v)
      release [v, ov, iv] []) := by intro _; rfl)
    (hs : swapsWithSole [.Subscript (.Name x p) k p2] e pos.line X.env = pure false := by rfl) (hw : swappedStores [.Subscript (.Name x p) k p2] e X.env = pure none := by rfl)
    (h1 : (assignEach [.Subscript (.Name x p) k p2] X.env).map (·.2) = [assign (.Subscript (.Name x p) k p2) X.env] := by rfl) :
    PS X (.Assign [.Subscript (.Name x p) k p2] e pos) (tS X.K X.mg W ks (sSetIx i f g)) := ps_imp (ps_asg he (pg_sub hv hk set_list ha) hs hw h1) fun D σ H h => by
  obtain ⟨B, e, S, r, h⟩ := h
  refine ⟨B, e, S, r, h.bind.imp (fun o e1 h v1 B1 H1 S1 T vl f1 => ?_) fun _ _ z => ExS.toE z⟩
  obtain ⟨B2, vl2, f2⟩ := vl.freeze
  have f3 := fz_fr f1 f2
  cases q : e1[i]? with
  | none => rw [q] at h; exact h.elim
  | some u =>
    cases u with
    | none => rw [q] at h; exact h.elim
    | some o1 =>
      rw [q] at h
      cases o1 with
      | fr d => exact h.elim
      | dct _ _ => exact h.elim
      | ins _ _ _ => exact h.elim
      | exn _ _ _ => exact h.elim
      | tr _ => exact h.elim
      | lst ds0 =>
        obtain ⟨v, hv, l, ys, ev, _, _, _⟩ := vl2.rp.rep i _ q
        subst ev
        refine ⟨_, hv, B2, e1, S1, vl2.rp, (show Post (M.bind f _ e1) _ _ from h).bind.imp (fun ko e2 h v2 B3 H3 S3 T3 vl3 f4 => ?_) fun x e2 z => ExS.toE (ExS.step z (Kp.refl _ _) f3)⟩
        cases q1 : e2[i]? with
        | none => rw [q1] at h; exact h.elim
        | some u1 =>
          cases u1 with
          | none => rw [q1] at h; exact h.elim
          | some o1 =>
            rw [q1] at h
            cases o1 with
            | fr d => exact h.elim
            | dct _ _ => exact h.elim
            | ins _ _ _ => exact h.elim
            | exn _ _ _ => exact h.elim
            | tr _ => exact h.elim
            | lst ds1 =>
              dsimp only at h
              split at h
              · rename_i j
                split at h
                · rename_i n hn
                  obtain ⟨v', hv', p', ys', e1', k2, k3, k4⟩ := vl3.rp.rep i _ q1
                  rw [hv] at hv'; cases hv'
                  cases e1'
                  have hj := vl3.ro.1
                  cases hj
                  obtain ⟨r5, f5⟩ := vl3.rp.mut q1 hv k2 (k3.set n (vl2.ro.1.mono f4.b))
                  exact ⟨_, ys', j, n, rfl, rfl, k2, by rw [k3.length]; exact hn, (show Nd X.K D ks B H S σ .next _ from h) σ B3 _ S3 r5 (Kp.refl _ _) ((f3.trans f4.weak).trans f5)⟩
                · exact h.elim
              · exact h.elim
end

/-! ## 20. The law -/
def spLaw (K : PySem.W.Frag) : Sp := fun vs H Q _ => ∃ (a : Addr) (ns : List Int), vs = [.ref a] ∧ SqL K H a (ns.map V.int) ∧ ns.length ≤ 63 ∧ ∀ H', Q (.bl true) H'
theorem law_sp {P : Program} {w : World} {K : PySem.W.Frag} {mg : Str → Option Value} {base : Heap} {CX : CXT} {k : Nat} {f : Addr} {fd : FuncData} {ps : List Str} {F : Fn} (h : FnOk P w K mg base CX k f fd ps (spD K mg 1 F))
    (hF : ∀ ns : List Int, ns.length ≤ 63 → ∃ os, F [.fr (.scr ns)] = some (.ok (bO true) os)) : FnOk P w K mg base CX k f fd ps (spLaw K) := h.imp fun vs H Q E ⟨a, ns, ev, hs, hl, q⟩ => by
  subst ev
  obtain ⟨os, e⟩ := hF ns hl
  refine ⟨rfl, H, [.fr (.scr ns)], fun _ => noS, ⟨rfl, Ex.refl H, fun i o ho => ?_, fun _ _ _ z => z.elim, fun _ _ z => z.elim⟩, ?_⟩
  · cases i with
    | zero =>
      have ho' : some (some (O.fr (D.scr ns))) = some (some o) := ho
      cases ho'
      exact ⟨_, rfl, .scr hs, fun _ z => z⟩
    | succ i => simp at ho
  · rw [e]
    intro v B' H' S' T _ vl _
    have hr := vl.ro.1
    cases hr
    exact q H'
theorem law_cx {P : Program} {w : World} (H : Hp) (s : Shared) (e : Value) (s' : Shared) (h : L2.CX P w [] H s (fun _ _ _ => False) e s') : False := by
  obtain ⟨_, _, _, _, _, _, _, _, _, _, _, _, z⟩ := h
  exact z
end Dn

namespace Dn
open PySem L2
open Evl (Ex)

/-! ## 21. Further forms -/
theorem _root_.L2.Room.units5 {k : Nat} {A : Around} (r : Room k A) : A.units + 65 < cLine := by have := r.un; omega
section
variable {X : Cx} {W : WX}
theorem d_g {x : Str} {pos : Pos} {v : V} {d : D} (hg : Gl X x) (h : ∃ u, X.mg x = some u ∧ RelV v u) (hr : ∀ B, Rep X.K B v d) (hdb : (x == ("__debug__" : Str)) = false := by decide) : PE X (.Name x pos) (tE X.K X.mg W (eC d)) := by
  obtain ⟨u, h1, h2⟩ := h
  exact d_c (pe_glob hg h1 h2 hdb) hr
theorem d_call0 {x : Str} {p pos : Pos} {k j n : Nat} {F : Fn} {dv : List D} (C : Cl X.prog X.w X.K X.mg X.base k x n F dv) (hr : Room j X.A) (tk : Takes X W) (hk : k ≤ j := by decide) (hg : Gl X x := by rfl) (hn : n = ([] : List P).length + dv.length := by rfl)
    (hdb : (x == ("__debug__" : Str)) = false := by decide) : PE X (.Call (.Name x p) [] [] pos) (tE X.K X.mg W (eCall F [] dv)) := by
  obtain ⟨f, fd, pn, ds, dvs, h0, h1, h2, h3, h4, h5, h6⟩ := C.ex
  have hl : dvs.length = dv.length := (h6 fun _ => none).length
  refine ⟨fun pins s σ H Q I h => ?_⟩
  refine wpAny_Call_Name_kw (ld_glob I hg h2 ?_ hdb)
  exact PySem.W.callWith_K0 I.kIn h3 (run_fnSD (us := []) (E := WE W) h1 (hr.mono hk) h4 h5 (passAt tk σ) I .nil (call_core (W := W) hl (h0.trans hn) (by decide) h6 h))
end
theorem cl_mk {P : Program} {w : World} {K : PySem.W.Frag} {mg : Str → Option Value} {base : Heap} {k n : Nat} {x : Str} {F : Fn} {f : Addr} {fd : FuncData} {ps : List Str} (h : FnOk P w K mg base (L2.CX P w) k f fd ps (spD K mg n F)) (hm : mg x = some (.ref f)) (hk : PySem.W.keepIn K (.ref f) = true) (hb : Binds K fd ps []) (hn : ps.length = n := by rfl) : Cl P w K mg base k x n F [] :=
  ⟨f, fd, ps, [], [], hn, by rw [hn]; exact h, hm, hk, hb, .nil, fun _ => .nil⟩

/-! ### a op1 b op2 c -/
def eChain (g g2 : List D → Option O) (fa fb fc : M O) : M O := fa.bind fun oa => fb.bind fun ob e => match g [oa.d, ob.d] with
  | some (.fr (.bl true)) => (fc.bind fun oc e => (g2 [ob.d, oc.d]).map fun o => .ok o e) e
  | some (.fr (.bl false)) => some (.ok (bO false) e)
  | _ => none
section
variable {K : PySem.W.Frag} {mg : Str → Option Value} {W : WX} {σ : St} {H : Hp}
theorem chain_run {r r2 : R2} {g g2 : List D → Option O} {fa fb fc : M O} {Q : VK} (hs : Snd2 K r g) (hs2 : Snd2 K r2 g2) (h : tE K mg W (eChain g g2 fa fb fc) σ H Q) : tChain r r2 (tE K mg W fa) (tE K mg W fb) (tE K mg W fc) σ H Q := by
  obtain ⟨B, e, S, rp, h⟩ := h
  refine ⟨B, e, S, rp, h.bind.imp (fun oa e1 h va B1 H1 S1 T1 vl1 f1 => ?_) fun _ _ z => z⟩
  have f1' := f1.weak (S' := S1)
  refine ⟨B1, e1, S1, vl1.rp, h.bind.imp (fun ob e2 h vb B2 H2 S2 T2 vl2 f2 => ?_) fun _ _ z => z.step f1'⟩
  have f2' := f2.weak (S' := S2)
  have f12 := f1'.trans f2'
  obtain ⟨ro1, _, _⟩ := vl1.ro.frame vl1.own vl1.dj f2
  have go : ∀ o, g [oa.d, ob.d] = some o → Post (match some o with
      | some (.fr (.bl true)) => (fc.bind fun oc e => (g2 [ob.d, oc.d]).map fun o => .ok o e) e2
      | some (.fr (.bl false)) => some (.ok (bO false) e2)
      | _ => none) (fun o e' => ∀ v B' H' S' T, Vl K B' H' σ e' S' v o T → Fr B H (tot S) B' H' (fun a => T a ∨ tot S' a) → Q v H') (fun x e' => ExE K mg W B H S σ x e') →
      r va vb H2 fun z H3 => ∃ k, z = .bl k ∧ (if k = true then tE K mg W fc σ H3 fun w' H4 => r2 vb w' H4 Q else Q (.bl false) H3) := fun o ho h => by
    refine hs B2 H2 va vb _ _ o vl2.rp.ex (ro1.rd vl2.rp.ex) (vl2.ro.rd vl2.rp.ex) ho _ fun v B3 H3 T gr ro hn ow => ?_
    cases o with
    | lst _ => exact h.elim
    | dct _ _ => exact h.elim
    | ins _ _ _ => exact h.elim
    | exn _ _ _ => exact h.elim
    | tr _ => exact h.elim
    | fr d =>
      cases d with
      | bl b =>
        have rv := ro.1
        cases rv
        have r3 := vl2.rp.grow gr
        have f3 : Fr B H (tot S) B3 H3 (tot S2) := f12.trans (gr.fr _)
        cases b with
        | false => exact ⟨false, rfl, iteF ((show ∀ v B' H' S' T, Vl K B' H' σ e2 S' v (bO false) T → Fr B H (tot S) B' H' (fun a => T a ∨ tot S' a) → Q v H' from h) _ B3 H3 S2 noS (.fr r3 (.bl _)) (f3.imp (fun _ z => z) fun a z => z.elim (fun z => z.elim) id))⟩
        | true =>
          refine ⟨true, rfl, iteT ⟨B3, e2, S2, r3, (show Post (M.bind fc _ e2) _ _ from h).bind.imp (fun oc e3 h vc B4 H4 S4 T4 vl4 f4 => ?_) fun _ _ z => z.step f3⟩⟩
          obtain ⟨o2, ho2, h⟩ := ap_end h
          obtain ⟨ro2, _, _⟩ := ((vl2.ro.grow gr)).frame (vl2.own.grow gr) vl2.dj f4
          exact hs2 B4 H4 vb vc _ _ o2 vl4.rp.ex (ro2.rd vl4.rp.ex) (vl4.ro.rd vl4.rp.ex) ho2 Q (vl4.rp.giv fun v B5 H5 S5 T5 vl5 f5 => h v B5 H5 S5 T5 vl5 ((f3.trans f4.weak).trans f5))
      | _ => exact h.elim
  cases q : g [oa.d, ob.d] with
  | none => simp only [q] at h; exact h.elim
  | some o => simp only [q] at h; exact go o q h
end
section
variable {X : Cx} {W : WX} {a b c e : Expr} {fa fb fc f : M O} {op op2 : CmpOp} {r r2 : R2} {g g2 : List D → Option O} {pos : Pos} {p : P}
theorem d_chain (ho : OpR X (compareOp op) r) (hs : Snd2 X.K r g) (ho2 : OpR X (compareOp op2) r2) (hs2 : Snd2 X.K r2 g2) (ha : PE X a (tE X.K X.mg W fa)) (hb : PE X b (tE X.K X.mg W fb)) (hc : PE X c (tE X.K X.mg W fc))
    (hm : lastMarks [op, op2] [b, c] = false := by with_unfolding_all rfl) : PE X (.Compare a [op, op2] [b, c] pos) (tE X.K X.mg W (eChain g g2 fa fb fc)) := pe_imp (pe_chain ho ho2 ha hb hc hm) fun _ _ _ h => chain_run hs hs2 h
theorem c_chain (ho : OpR X (compareOp op) r) (hs : Snd2 X.K r g) (ho2 : OpR X (compareOp op2) r2) (hs2 : Snd2 X.K r2 g2) (ha : PE X a (tE X.K X.mg W fa)) (hb : PE X b (tE X.K X.mg W fb)) (hc : PE X c (tE X.K X.mg W fc))
    (hm : lastMarks [op, op2] [b, c] = false := by with_unfolding_all rfl) : PT X (.Compare a [op, op2] [b, c] pos) (tT X.K X.mg W (tst (eChain g g2 fa fb fc))) := pt_imp (pt_chain ho ho2 ha hb hc hm) fun σ H Q h => by
  obtain ⟨B, e, S, r, h⟩ := h
  refine chain_run hs hs2 (mg := X.mg) (W := W) ⟨B, e, S, r, h.bind.imp (fun o e' h v B' H' S' T vl f => ?_) fun _ _ z => z⟩
  cases o with
  | lst ds => exact h.elim
  | dct _ _ => exact h.elim
  | ins _ _ _ => exact h.elim
  | exn _ _ _ => exact h.elim
  | tr _ => exact h.elim
  | fr d =>
    cases d with
    | bl b =>
      have hr := vl.ro.1
      cases hr
      exact ⟨b, rfl, h B' H' S' vl.rp (f.imp (fun _ z => z) fun _ z => .inr z)⟩
    | _ => exact h.elim
/-! ### truth -/
def truD : D → Option Bool
  | .non => some false
  | .bl b => some b
  | .int i => some (i != 0)
  | .str z => if z.length ≤ sizeLine then some ((z.length : Int) != 0) else none
  | .lst ds => some (!ds.isEmpty)
  | .tup ds => some (!ds.isEmpty)
  | .scr ns => some (!ns.isEmpty)
  | _ => none
def tru (p : P) : M Bool := (ops [p]).bind fun ds e => match ds with
  | [d] => (truD d).map fun b => .ok b e
  | _ => none
theorem repL_empty {K : PySem.W.Frag} {B : Hp} {xs : List V} {ds : List D} (h : RepL K B xs ds) : (!ds.isEmpty) = !xs.isEmpty := by cases h <;> rfl
theorem c_tru (h : PE X e (tP X.K X.mg W p)) (he : ∀ whole, isTrue e X.env whole = (do let v ← whole; standAt e.pos; holding [v] (truthy v)) := by intro _; rfl) : PT X e (tT X.K X.mg W (tru p)) := pt_imp (pt_truth h he) fun σ H Q h => by
  obtain ⟨B, e, S, rp, h⟩ := h
  have key := ops_run (K := X.K) (mg := X.mg) (W := W) (σ := σ) [p] (fun vs H' => ∀ x, vs = [x] → ∃ k, TruV X.K x H' k ∧ Q k H') rp (h.bind.imp (fun ds e' h vs B' H' S' r' rl f x ev => ?_) fun _ _ z => z)
  · have key' : tP X.K X.mg W p σ H fun x H1 => ∀ x', [x] = [x'] → ∃ k, TruV X.K x' H1 k ∧ Q k H1 := key
    exact tP_mono _ _ _ _ _ (fun x H1 t => t x rfl) key'
  · subst ev
    cases rl with
    | cons h1 rl =>
      cases rl
      rename_i d
      have h0 : Post ((truD d).map fun b => Ro.ok b e') (fun b e' => ∀ B' H' S', Rp X.K B' H' σ e' S' → Fr B H (tot S) B' H' (tot S') → Q b H') (fun x e' => ExE X.K X.mg W B H S σ x e') := h
      cases q : truD d with
      | none => rw [q] at h0; exact h0.elim
      | some b =>
        rw [q] at h0
        have h2 : ∀ B' H' S', Rp X.K B' H' σ e' S' → Fr B H (tot S) B' H' (tot S') → Q b H' := h0
        refine ⟨b, ?_, h2 B' H' S' r' f⟩
        cases d with
        | non => cases h1; cases q; rfl
        | bl b => cases h1; cases q; rfl
        | int b => cases h1; cases q; rfl
        | str z =>
          cases h1
          have q' : (if z.length ≤ sizeLine then some ((z.length : Int) != 0) else none) = some b := q
          by_cases hz : z.length ≤ sizeLine
          · rw [if_pos hz] at q'; cases q'; exact ⟨hz, rfl⟩
          · rw [if_neg hz] at q'; cases q'
        | opq => cases q
        | dct _ _ => cases q
        | ins _ _ _ => cases q
        | lst ds => obtain ⟨a, xs, rfl, k1, k2⟩ := h1; cases q; exact .inl ⟨xs, Evl.sq_of k1, repL_empty k2⟩
        | tup ds => cases h1 with
          | tup k1 k2 => cases q; exact .inr (.inl ⟨_, Evl.ex_t r'.ex k1.sq, repL_empty k2⟩)
        | scr ns => cases h1 with
          | scr k1 => cases q; exact .inl ⟨_, Evl.ex_l r'.ex k1, by cases ns <;> rfl⟩
/-! ### x op= e, a, b = e -/
def sAug (g : List D → Option O) (i : Nat) (f : M O) : M Fl := fun e => match e[i]? with
  | some (some (.fr a)) => (f.bind fun o e' => match g [a, o.d] with
    | some (.fr r) => some (.ok .next (e'.set i (some (.fr r))))
    | _ => none) e
  | _ => none
def gAddI : List D → Option O
  | [.int i, .int j] => some (iO (i + j))
  | _ => none
theorem n_addI {K : PySem.W.Frag} : Snd2 K (ipI fun i j => i + j) gAddI := fun B H x y a b o hx ha hb hg Q q => by
  cases a <;> cases b <;> simp only [gAddI] at hg <;> (try cases hg)
  cases ha; cases hb
  exact ⟨_, _, rfl, rfl, q.fr hx (.int _)⟩
theorem n_subI {K : PySem.W.Frag} : Snd2 K (ipI fun i j => i - j) gSub := fun B H x y a b o hx ha hb hg Q q => by
  cases a <;> cases b <;> simp only [gSub] at hg <;> (try cases hg)
  cases ha; cases hb
  exact ⟨_, _, rfl, rfl, q.fr hx (.int _)⟩
theorem s_aug {ks : List Nat} {i : Nat} {x : Str} {op : Operator} {ti : TIp} {pos' : Pos} (hN : X.N.Nodup) (hi : X.N[i]? = some x) (hx : Loc X.env.scope x) (he : PE X e (tE X.K X.mg W f)) (ho : PIp X op ti) (hs : Snd2 X.K ti g) (hk : i ∉ ks := by decide) (hf : X.fn x = true ∨ X.env.scope.names.lookup x = some .local := by first | exact .inl rfl | exact .inr rfl | assumption) :
    PS X (.AugAssign (.Name x pos') op e pos) (tS X.K X.mg W ks (sAug g i f)) := ps_imp (ps_aug hN hi hx he ho hf) fun D σ H h => by
  obtain ⟨B, e, S, r, h⟩ := h
  unfold sAug at h
  cases q : e[i]? with
  | none => rw [q] at h; exact h.elim
  | some u =>
    cases u with
    | none => rw [q] at h; exact h.elim
    | some o =>
      rw [q] at h
      cases o with
      | lst _ => exact h.elim
      | dct _ _ => exact h.elim
      | ins _ _ _ => exact h.elim
      | exn _ _ _ => exact h.elim
      | tr _ => exact h.elim
      | fr a =>
        obtain ⟨v, hv, ro⟩ := r.rep i _ q
        refine ⟨v, hv, B, e, S, r, (show Post (M.bind f _ e) _ _ from h).bind.imp (fun o e1 h y B1 H1 S1 T vl f1 => ?_) fun _ _ z => ExS.toE z⟩
        have f1' := f1.weak (S' := S1)
        cases qg : g [a, o.d] with
        | none => rw [qg] at h; exact h.elim
        | some res =>
          rw [qg] at h
          cases res with
          | lst _ => exact h.elim
          | dct _ _ => exact h.elim
          | ins _ _ _ => exact h.elim
          | exn _ _ _ => exact h.elim
          | tr _ => exact h.elim
          | fr d =>
            refine hs B1 H1 v y a _ _ vl.rp.ex ((ro.1.mono f1.b).rd vl.rp.ex) (vl.ro.rd vl.rp.ex) qg _ fun z B2 H2 T2 gr roz _ _ => ?_
            have vl2 : Vl X.K B2 H2 σ e1 S1 z (.fr d) noS := .fr (vl.rp.grow gr) roz.1
            exact (show Nd X.K D ks B H S σ .next _ from h) _ B2 H2 _ (vl2.set i) (Kp.set hk) ((f1'.trans (gr.fr _)).imp (fun _ z => z) fun a z => (tot_set z).elim (fun z => z.elim) id)
def sSetT (tg : Tg) (f : M O) : M Fl := f.bind fun o e => (tg.go o.d e).map fun e' => .ok .next e'
theorem s_setT {ks : List Nat} {t : Expr} {tg : Tg} (he : PE X e (tE X.K X.mg W f)) (hg : PG X t (tTg X.K tg)) (hk : ∀ i ∈ tg.ix, i ∉ ks) (hs : swapsWithSole [t] e pos.line X.env = pure false := by rfl) (hw : swappedStores [t] e X.env = pure none := by rfl)
    (h1 : (assignEach [t] X.env).map (·.2) = [assign t X.env] := by rfl) : PS X (.Assign [t] e pos) (tS X.K X.mg W ks (sSetT tg f)) := ps_imp (ps_asg he hg hs hw h1) fun D σ H h => by
  obtain ⟨B, e, S, r, h⟩ := h
  refine ⟨B, e, S, r, h.bind.imp (fun o e1 h v B1 H1 S1 T vl f1 => ?_) fun _ _ z => ExS.toE z⟩
  obtain ⟨B2, vl2, f2⟩ := vl.freeze
  have f3 := fz_fr f1 f2
  cases q : tg.go o.d e1 with
  | none => rw [q] at h; exact h.elim
  | some e2 =>
    rw [q] at h
    exact tg_run (ks := ks) vl2.rp vl2.ro.1 q hk fun σ' S' r' k' t' _ => (show Nd X.K D ks B H S σ .next e2 from h) σ' B2 H1 S' r' k' (f3.imp (fun _ z => z) t')
end
end Dn

namespace Dn
open PySem L2
theorem bt_len : bootBuiltins "len" = some (.builtin "len") := by decide +kernel
theorem bt_int : bootBuiltins "int" = some (.type "int") := by decide +kernel
theorem bt_abs : bootBuiltins "abs" = some (.builtin "abs") := by decide +kernel
theorem bt_ord : bootBuiltins "ord" = some (.builtin "ord") := by decide +kernel
theorem bt_list : bootBuiltins "list" = some (.type "list") := by decide +kernel
theorem bt_tuple : bootBuiltins "tuple" = some (.type "tuple") := by decide +kernel
theorem bt_all : bootBuiltins "all" = some (.builtin "all") := by decide +kernel
theorem bt_any : bootBuiltins "any" = some (.builtin "any") := by decide +kernel
theorem bt_sum : bootBuiltins "sum" = some (.builtin "sum") := by decide +kernel
theorem bt_str : bootBuiltins "str" = some (.type "str") := by decide +kernel
theorem bt_bool : bootBuiltins "bool" = some (.type "bool") := by decide +kernel
theorem bt_isinstance : bootBuiltins "isinstance" = some (.builtin "isinstance") := by decide +kernel
theorem bt_repr : bootBuiltins "repr" = some (.builtin "repr") := by decide +kernel
theorem bt_max : bootBuiltins "max" = some (.builtin "max") := by decide +kernel
theorem bt_min : bootBuiltins "min" = some (.builtin "min") := by decide +kernel
theorem bt_sorted : bootBuiltins "sorted" = some (.builtin "sorted") := by decide +kernel
end Dn

namespace Dn
open PySem L2
open PyProof.Rows (envOfC)
section
variable {P : Program} {w : World} {K : PySem.W.Frag} {mg : Str → Option Value} {base : Heap}
theorem fn_dnX {x qual : Str} {st : Stmt} {f : Addr} {fd : FuncData} {N ps : List Str} {k : Nat} {ks : List Nat} {g : M Fl} (F : FunX K x qual st f fd) (Sc : FnScope N ps (defScope st)) (n m : Nat) (hn : ps.length = n) (hm : N.length = m)
    (hb : ∀ (cdv : Value) (A : Around) (outer : List PySem.Env) (s : Shared) (H : Hp) (E : XK), Room k (A.deeper (envOfC qual (defScope st) s.heap.objs.size f cdv)) →
      Takes (cxOf (L2.CX P w) P w K mg base N qual (defScope st) f cdv A outer s H E) (fun cls d _ H => E cls d H) →
      PassesOwn (model P w) (A.deeper (envOfC qual (defScope st) s.heap.objs.size f cdv)) (envOfC qual (defScope st) s.heap.objs.size f cdv) (cxOf (L2.CX P w) P w K mg base N qual (defScope st) f cdv A outer s H E).xe →
      PSs (cxOf (L2.CX P w) P w K mg base N qual (defScope st) f cdv A outer s H E) (defBody st) (tS K mg (fun cls d _ H => E cls d H) ks g)) :
    FnOk P w K mg base (L2.CX P w) (k + 1) f fd ps (spD K mg n (mkF m ks g)) := by
  subst hn
  subst hm
  exact fn_den F Sc hb
theorem fn_dn {x qual : Str} {st : Stmt} {f : Addr} {fd : FuncData} {N ps : List Str} {k : Nat} {ks : List Nat} {g : M Fl} (F : Fun K x qual st f fd) (Sc : FnScope N ps (defScope st)) (n m : Nat) (hn : ps.length = n) (hm : N.length = m)
    (hb : ∀ (cdv : Value) (A : Around) (outer : List PySem.Env) (s : Shared) (H : Hp) (E : XK), Room k (A.deeper (envOfC qual (defScope st) s.heap.objs.size f cdv)) →
      Takes (cxOf (L2.CX P w) P w K mg base N qual (defScope st) f cdv A outer s H E) (fun cls d _ H => E cls d H) →
      PassesOwn (model P w) (A.deeper (envOfC qual (defScope st) s.heap.objs.size f cdv)) (envOfC qual (defScope st) s.heap.objs.size f cdv) (cxOf (L2.CX P w) P w K mg base N qual (defScope st) f cdv A outer s H E).xe →
      PSs (cxOf (L2.CX P w) P w K mg base N qual (defScope st) f cdv A outer s H E) (defBody st) (tS K mg (fun cls d _ H => E cls d H) ks g)) :
    FnOk P w K mg base (L2.CX P w) (k + 1) f fd ps (spD K mg n (mkF m ks g)) := by
  exact fn_dnX (fun_x F) Sc n m hn hm hb
end
end Dn

namespace Dn
open PySem L2

/-! ## 22. Reckoning with what is computed -/
theorem sl_val : sizeLine = 16777216 := sizeLine_eq
/-- a for: I between two turns; it may be left by a return (R) or a break (Bk) -/
theorem forL_gen {tg : Tg} {body : M Fl} (I : Nat → Sl → Prop) (R : O → Sl → Prop) (Bk : Sl → Prop) : ∀ (ds : List D) (e : Sl), I 0 e →
    (∀ (i : Nat) (d : D) (e : Sl), ds[i]? = some d → I i e → ∃ e1, tg.go d e = some e1 ∧ ((∃ e2, (body e1 = some (.ok .next e2) ∨ body e1 = some (.ok .cnt e2)) ∧ I (i + 1) e2) ∨ (∃ o e2, body e1 = some (.ok (.ret o) e2) ∧ R o e2) ∨ (∃ e2, body e1 = some (.ok .brk e2) ∧ Bk e2))) →
    (∃ e', forL tg body ds e = some (.ok .next e') ∧ (I ds.length e' ∨ Bk e')) ∨ (∃ o e', forL tg body ds e = some (.ok (.ret o) e') ∧ R o e')
  | [], e, h0, _ => .inl ⟨e, rfl, .inl h0⟩
  | d :: ds, e, h0, hs => by
    obtain ⟨e1, h1, h2⟩ := hs 0 d e rfl h0
    have ih := fun e2 (h : I 1 e2) => forL_gen (fun i => I (i + 1)) R Bk ds e2 h fun i d' e' hd hi => hs (i + 1) d' e' hd hi
    rcases h2 with ⟨e2, hb, hi⟩ | ⟨o, e2, hb, hr⟩ | ⟨e2, hb, hk⟩
    · have q : forL tg body (d :: ds) e = forL tg body ds e2 := by
        rcases hb with hb | hb <;> (simp only [forL, h1, hb])
      rw [q]
      exact ih e2 hi
    · exact .inr ⟨o, e2, by simp only [forL, h1, hb], hr⟩
    · exact .inl ⟨e2, by simp only [forL, h1, hb], .inr hk⟩
/-- a for that goes through -/
theorem forL_all {tg : Tg} {body : M Fl} (I : Nat → Sl → Prop) (ds : List D) (e : Sl) (h0 : I 0 e)
    (hs : ∀ (i : Nat) (d : D) (e : Sl), ds[i]? = some d → I i e → ∃ e1 e2, tg.go d e = some e1 ∧ body e1 = some (.ok .next e2) ∧ I (i + 1) e2) : ∃ e', forL tg body ds e = some (.ok .next e') ∧ I ds.length e' := by
  rcases forL_gen I (fun _ _ => False) (fun _ => False) ds e h0 fun i d e hd hi => by
    obtain ⟨e1, e2, h1, h2, h3⟩ := hs i d e hd hi
    exact ⟨e1, h1, .inl ⟨e2, .inl h2, h3⟩⟩ with ⟨e', h1, h2⟩ | ⟨o, e', h1, h2⟩
  · exact ⟨e', h1, h2.elim id False.elim⟩
  · exact h2.elim
/-- a while, by a measure -/
theorem whL_gen {c : M Bool} {body : M Fl} (I : Nat → Sl → Prop) (Z : Sl → Prop) (R : O → Sl → Prop) (hs : ∀ (m : Nat) (e : Sl), I m e → (∃ e1, c e = some (.ok false e1) ∧ Z e1) ∨ (∃ e1, c e = some (.ok true e1) ∧ ((∃ m' e2, m' < m ∧ (body e1 = some (.ok .next e2) ∨ body e1 = some (.ok .cnt e2)) ∧ I m' e2) ∨ (∃ o e2, body e1 = some (.ok (.ret o) e2) ∧ R o e2) ∨ (∃ e2, body e1 = some (.ok .brk e2) ∧ Z e2)))) :
    ∀ (n m : Nat) (e : Sl), m < n → I m e → (∃ e', whL c body n e = some (.ok .next e') ∧ Z e') ∨ (∃ o e', whL c body n e = some (.ok (.ret o) e') ∧ R o e')
  | 0, _, _, h, _ => absurd h (Nat.not_lt_zero _)
  | n + 1, m, e, hn, hi => by
    rcases hs m e hi with ⟨e1, h1, h2⟩ | ⟨e1, h1, h2⟩
    · exact .inl ⟨e1, by simp [whL, M.bind, h1, M.pure], h2⟩
    · rcases h2 with ⟨m', e2, hm, hb, hi'⟩ | ⟨o, e2, hb, hr⟩ | ⟨e2, hb, hz⟩
      · have q : whL c body (n + 1) e = whL c body n e2 := by
          rcases hb with hb | hb <;> simp [whL, M.bind, h1, hb]
        rw [q]
        exact whL_gen I Z R hs n m' e2 (by omega) hi'
      · exact .inr ⟨o, e2, by simp [whL, M.bind, h1, hb], hr⟩
      · exact .inl ⟨e2, by simp [whL, M.bind, h1, hb], hz⟩
/-- a comprehension without a test: P i d x of each item and what is made of it -/
theorem lcL_gen {own : List Nat} {tg : Tg} {t : M Bool} {f : M O} (I : Nat → Sl → Prop) (Pr : Nat → D → D → Prop) : ∀ (ds acc : List D) (e : Sl), acc.length + ds.length < 10000000 → I 0 e →
    (∀ (i : Nat) (d : D) (e : Sl), ds[i]? = some d → I i e → ∃ e1 e2 o e3, tg.go d e = some e1 ∧ t e1 = some (.ok true e2) ∧ f e2 = some (.ok o e3) ∧ Pr i d o.d ∧ I (i + 1) (wipeE e3 own)) →
    ∃ xs e', lcL own tg t f ds acc e = some (acc ++ xs, e') ∧ xs.length = ds.length ∧ (∀ (i : Nat) (d : D), ds[i]? = some d → ∃ x, xs[i]? = some x ∧ Pr i d x) ∧ I ds.length e'
  | [], acc, e, _, h0, _ => ⟨[], e, by simp [lcL], rfl, fun i d h => by simp at h, h0⟩
  | d :: ds, acc, e, hl, h0, hs => by
    obtain ⟨e1, e2, o, e3, h1, h2, h3, h4, h5⟩ := hs 0 d e rfl h0
    have hz : acc.length < sizeLine := by rw [sizeLine_eq]; rw [List.length_cons] at hl; omega
    obtain ⟨xs, e', q1, q2, q3, q4⟩ := lcL_gen (fun i => I (i + 1)) (fun i => Pr (i + 1)) ds (acc ++ [o.d]) (wipeE e3 own) (by rw [List.length_append]; simp only [List.length_cons, List.length_nil] at *; omega) h5 fun i d' e' hd hi => hs (i + 1) d' e' hd hi
    refine ⟨o.d :: xs, e', ?_, by rw [List.length_cons, List.length_cons, q2], fun i d' h => ?_, q4⟩
    · simp only [lcL, h1, h2, h3, hz, if_true, q1, List.append_assoc, List.singleton_append]
    · cases i with
      | zero =>
        have h' : some d = some d' := h
        cases h'
        exact ⟨_, rfl, h4⟩
      | succ i =>
        obtain ⟨x, a, b⟩ := q3 i d' h
        exact ⟨x, a, b⟩
/-- a comprehension whose element is a function of the item, and whose block leaves the slots as they were -/
theorem lcL_map {own : List Nat} {tg : Tg} {t : M Bool} {f : M O} {e : Sl} (h : D → D) (ds : List D) (hl : ds.length < 10000000)
    (hs : ∀ d ∈ ds, ∃ e1 e2 o e3, tg.go d e = some e1 ∧ t e1 = some (.ok true e2) ∧ f e2 = some (.ok o e3) ∧ o.d = h d ∧ wipeE e3 own = e) : lcL own tg t f ds [] e = some (ds.map h, e) := by
  obtain ⟨xs, e', q1, q2, q3, q4⟩ := lcL_gen (own := own) (tg := tg) (t := t) (f := f) (fun _ e' => e' = e) (fun _ d x => x = h d) ds [] e (by simpa using hl) rfl fun i d e' hd he => by
    subst he
    obtain ⟨e1, e2, o, e3, a, b, c, d', f'⟩ := hs d (List.mem_of_getElem? hd)
    exact ⟨e1, e2, o, e3, a, b, c, d', f'⟩
  rw [q1, q4, List.nil_append]
  congr 2
  apply List.ext_getElem?
  intro i
  rw [List.getElem?_map]
  cases hd : ds[i]? with
  | none => rw [List.getElem?_eq_none (by rw [q2]; exact List.getElem?_eq_none_iff.mp hd)]; rfl
  | some d =>
    obtain ⟨x, hx, e⟩ := q3 i d hd
    rw [hx, e]; rfl
theorem rngD_get {lo hi : Int} {i : Nat} {d : D} (h : (rngD lo hi)[i]? = some d) : d = .int (lo + i) ∧ (i : Int) < hi - lo := by
  unfold rngD at h
  have hl := (List.getElem?_eq_some_iff.mp h).1
  rw [List.length_map, List.length_range] at hl
  rw [List.getElem?_map, List.getElem?_range hl] at h
  cases h
  exact ⟨rfl, by omega⟩
theorem rngD_len {lo hi : Int} : (rngD lo hi).length = (hi - lo).toNat := by unfold rngD; rw [List.length_map, List.length_range]
theorem fmod_pos {a b : Int} (h : 0 < b) : a.fmod b = a % b := Int.fmod_eq_emod_of_nonneg a (Int.le_of_lt h)
theorem fdiv_pos {a b : Int} (h : 0 ≤ b) : a.fdiv b = a / b := Int.fdiv_eq_ediv_of_nonneg a h
theorem atI_nat' {α : Type} {xs : List α} {i : Int} (h0 : 0 ≤ i) (h1 : i < xs.length) : atI xs i = xs[i.toNat]? := by
  unfold atI ixN
  rw [if_pos h0, if_pos h1]; rfl
theorem atI_some {α : Type} {xs : List α} {i : Int} (h0 : 0 ≤ i) (h1 : i < xs.length) : ∃ x, atI xs i = some x ∧ x ∈ xs := by
  rw [atI_nat' h0 h1]
  have h2 : i.toNat < xs.length := by omega
  exact ⟨xs[i.toNat], List.getElem?_eq_getElem h2, List.getElem_mem h2⟩
end Dn

/-! ## 23. Every form, at given slots -/
namespace Dn
open PySem L2
section
variable {α β : Type} (e : Sl)
/-- by computing, but told as a step of its own -/
theorem nr {γ : Type} {a b : γ} (h : a = b) : a = b := h
/-- what follows an outcome; kept as an instance, so that simp leaves it alone until it is reached -/
class Kont (α β : Type) where
  run : α → Sl → Option (Ro β)
@[inline] def thn' {α β : Type} (r : Option (Ro α)) [k : Kont α β] : Option (Ro β) := match r with
  | none => none
  | some (.ex x e') => some (.ex x e')
  | some (.ok a e') => k.run a e'
theorem thn_ok {a : α} {e' : Sl} {k : Kont α β} : @thn' _ _ (some (.ok a e')) k = k.run a e' := nr rfl
theorem thn_ex {x : Exn} {e' : Sl} {k : Kont α β} : @thn' _ _ (some (.ex x e')) k = some (.ex x e') := nr rfl
theorem thn_none {k : Kont α β} : @thn' _ _ none k = none := nr rfl
theorem thn_congr {r : Option (Ro α)} {f g : α → Sl → Option (Ro β)} (h : ∀ a e, f a e = g a e) : @thn' _ _ r ⟨f⟩ = @thn' _ _ r ⟨g⟩ := by rw [show f = g from funext fun a => funext fun e => h a e]
theorem bind_a (m : M α) (f : α → M β) : M.bind m f e = @thn' _ _ (m e) ⟨fun a e' => f a e'⟩ := nr rfl
theorem pure_a (a : α) : M.pure a e = some (.ok a e) := nr rfl
theorem stuck_a : (M.stuck : M α) e = none := nr rfl
def getO (e : Sl) (i : Nat) : Option O := match e[i]? with
  | some (some o) => some o
  | _ => none
theorem getO_nil (i : Nat) : getO [] i = none := by simp [getO]
theorem getO_0 (o : O) (es : Sl) : getO (some o :: es) 0 = some o := nr rfl
theorem getO_0n (es : Sl) : getO (none :: es) 0 = none := nr rfl
theorem getO_s (o : Option O) (es : Sl) (i : Nat) : getO (o :: es) (i + 1) = getO es i := by simp [getO]
theorem ops_n : ops [] e = some (.ok [] e) := nr rfl
theorem ops_b (i : Nat) (ps : List P) : ops (.b i :: ps) e = (match getO e i with
    | some _ => @thn' _ _ (ops ps e) ⟨fun ds e' => (match getO e' i with
      | some o => some (.ok (o.d :: ds) e')
      | none => none)⟩
    | none => none) := by
  conv => lhs; unfold ops
  unfold getO M.bind thn'
  cases h : e[i]? with
  | none => rfl
  | some u =>
    cases u with
    | none => rfl
    | some o =>
      dsimp only
      cases ops ps e with
      | none => rfl
      | some r =>
        cases r with
        | ex x e' => rfl
        | ok ds e' =>
          dsimp only
          cases h2 : e'[i]? with
          | none => rfl
          | some u => cases u <;> rfl
theorem ops_v (f : M O) (ps : List P) : ops (.v f :: ps) e = @thn' _ _ (f e) ⟨fun o e1 => @thn' _ _ (ops ps e1) ⟨fun ds e2 => some (.ok (o.d :: ds) e2)⟩⟩ := nr rfl
theorem ap_a (g : List D → Option O) (ps : List P) : ap g ps e = @thn' _ _ (ops ps e) ⟨fun ds e' => (g ds).map fun o => .ok o e'⟩ := nr rfl
theorem eC_a (d : D) : eC d e = some (.ok (.fr d) e) := nr rfl
theorem eVar_a (i : Nat) : eVar i e = (match getO e i with
    | some (.fr d) => some (.ok (.fr d) e)
    | some (.lst ds) => some (.ok (.fr (.lst ds)) (e.set i (some (.fr (.lst ds)))))
    | some (.dct ks ds) => some (.ok (.fr (.dct ks ds)) (e.set i (some (.fr (.dct ks ds)))))
    | some (.ins c ns ds) => some (.ok (.fr (.ins c ns ds)) (e.set i (some (.fr (.ins c ns ds)))))
    | _ => none) := by
  unfold eVar getO
  cases h : e[i]? with
  | none => rfl
  | some u => cases u with
    | none => rfl
    | some o => cases o <;> rfl
theorem eMove_a (i : Nat) : eMove i e = (match getO e i with
    | some (.fr d) => some (.ok (.fr d) e)
    | some o => some (.ok o (e.set i none))
    | none => none) := by
  unfold eMove getO
  cases h : e[i]? with
  | none => rfl
  | some u => cases u with
    | none => rfl
    | some o => cases o <;> rfl
theorem eFz_a (f : M O) : eFz f e = @thn' _ _ (f e) ⟨fun o e' => some (.ok (.fr o.d) e')⟩ := nr rfl
theorem eIf_a (c : M Bool) (f g : M O) : eIf c f g e = @thn' _ _ (c e) ⟨fun b e' => if b = true then f e' else g e'⟩ := by
  show @thn' _ _ (c e) ⟨_⟩ = _
  exact thn_congr fun b _ => by cases b <;> rfl
theorem eAnd_a (f g : M O) : eAnd f g e = @thn' _ _ (f e) ⟨fun o e' => (match o with
    | .fr (.bl true) => g e'
    | .fr (.bl false) => some (.ok (.fr (.bl false)) e')
    | _ => none)⟩ := by
  show @thn' _ _ (f e) ⟨_⟩ = _
  refine thn_congr fun o e' => ?_
  cases o with
  | lst _ => rfl
  | dct _ _ => rfl
  | ins _ _ _ => rfl
  | exn _ _ _ => rfl
  | tr _ => rfl
  | fr d => cases d with
    | bl b => cases b <;> rfl
    | _ => rfl
theorem eOr_a (f g : M O) : eOr f g e = @thn' _ _ (f e) ⟨fun o e' => (match o with
    | .fr (.bl false) => g e'
    | .fr (.bl true) => some (.ok (.fr (.bl true)) e')
    | _ => none)⟩ := by
  show @thn' _ _ (f e) ⟨_⟩ = _
  refine thn_congr fun o e' => ?_
  cases o with
  | lst _ => rfl
  | dct _ _ => rfl
  | ins _ _ _ => rfl
  | exn _ _ _ => rfl
  | tr _ => rfl
  | fr d => cases d with
    | bl b => cases b <;> rfl
    | _ => rfl
theorem eNot_a (f : M O) : eNot f e = @thn' _ _ (f e) ⟨fun o e' => (match o with
    | .fr (.bl b) => some (.ok (.fr (.bl (!b))) e')
    | _ => none)⟩ := by
  show @thn' _ _ (f e) ⟨_⟩ = _
  refine thn_congr fun o e' => ?_
  cases o with
  | lst _ => rfl
  | dct _ _ => rfl
  | ins _ _ _ => rfl
  | exn _ _ _ => rfl
  | tr _ => rfl
  | fr d => cases d <;> rfl
theorem tst_a (f : M O) : tst f e = @thn' _ _ (f e) ⟨fun o e' => (match o with
    | .fr (.bl b) => some (.ok b e')
    | _ => none)⟩ := by
  show @thn' _ _ (f e) ⟨_⟩ = _
  refine thn_congr fun o e' => ?_
  cases o with
  | lst _ => rfl
  | dct _ _ => rfl
  | ins _ _ _ => rfl
  | exn _ _ _ => rfl
  | tr _ => rfl
  | fr d => cases d <;> rfl
theorem cAnd_a (c d : M Bool) : cAnd c d e = @thn' _ _ (c e) ⟨fun b e' => if b = true then d e' else some (.ok false e')⟩ := by
  show @thn' _ _ (c e) ⟨_⟩ = _
  exact thn_congr fun b _ => by cases b <;> rfl
theorem cOr_a (c d : M Bool) : cOr c d e = @thn' _ _ (c e) ⟨fun b e' => if b = true then some (.ok true e') else d e'⟩ := by
  show @thn' _ _ (c e) ⟨_⟩ = _
  exact thn_congr fun b _ => by cases b <;> rfl
theorem cNot_a (c : M Bool) : cNot c e = @thn' _ _ (c e) ⟨fun b e' => some (.ok (!b) e')⟩ := nr rfl
theorem items_n : items [] e = some (.ok [] e) := nr rfl
theorem items_c (f : M O) (fs : List (M O)) : items (f :: fs) e = @thn' _ _ (f e) ⟨fun o e1 => @thn' _ _ (items fs e1) ⟨fun ds e2 => some (.ok (o.d :: ds) e2)⟩⟩ := nr rfl
theorem eTup_a (fs : List (M O)) : eTup fs e = @thn' _ _ (items fs e) ⟨fun ds e' => some (.ok (.fr (.tup ds)) e')⟩ := nr rfl
theorem eLst_a (fs : List (M O)) : eLst fs e = @thn' _ _ (items fs e) ⟨fun ds e' => some (.ok (.lst ds) e')⟩ := nr rfl
theorem sNext_a : sNext e = some (.ok .next e) := nr rfl
theorem sBrk_a : sBrk e = some (.ok .brk e) := nr rfl
theorem sCnt_a : sCnt e = some (.ok .cnt e) := nr rfl
theorem sSeq_a (a b : M Fl) : sSeq a b e = @thn' _ _ (a e) ⟨fun f e' => (match f with
    | .next => b e'
    | .ret o => some (.ok (.ret o) e')
    | .brk => some (.ok .brk e')
    | .cnt => some (.ok .cnt e'))⟩ := by
  show @thn' _ _ (a e) ⟨_⟩ = _
  exact thn_congr fun f _ => by cases f <;> rfl
theorem sIf_a (c : M Bool) (a b : M Fl) : sIf c a b e = @thn' _ _ (c e) ⟨fun t e' => if t = true then a e' else b e'⟩ := by
  show @thn' _ _ (c e) ⟨_⟩ = _
  exact thn_congr fun b _ => by cases b <;> rfl
theorem sRet_a (f : M O) : sRet f e = @thn' _ _ (f e) ⟨fun o e' => some (.ok (.ret o) e')⟩ := nr rfl
theorem sDrop_a (f : M O) : sDrop f e = @thn' _ _ (f e) ⟨fun _ e' => some (.ok .next e')⟩ := nr rfl
theorem sSet_a (i : Nat) (f : M O) : sSet i f e = @thn' _ _ (f e) ⟨fun o e' => some (.ok .next (e'.set i (some o)))⟩ := nr rfl
theorem sFor_a (src : M (List D)) (tg : Tg) (b : M Fl) : sFor src tg b e = @thn' _ _ (src e) ⟨fun ds e' => forL tg b ds e'⟩ := nr rfl
theorem eCall_a (F : Fn) (ps : List P) (dv : List D) : eCall F ps dv e = @thn' _ _ (cops ps e) ⟨fun os e' => (match F (os ++ dv.map .fr) with
    | none => none
    | some (.ok o os') => some (.ok o (wb ps os' e'))
    | some (.ex x os') => some (.ex x (wb ps os' e')))⟩ := nr rfl
theorem cops_n : cops [] e = some (.ok [] e) := nr rfl
theorem cops_b (i : Nat) (ps : List P) : cops (.b i :: ps) e = (match getO e i with
    | some _ => @thn' _ _ (cops ps e) ⟨fun ds e' => (match getO e' i with
      | some o => some (.ok (o :: ds) e')
      | none => none)⟩
    | none => none) := by
  conv => lhs; unfold cops
  unfold getO M.bind thn'
  cases h : e[i]? with
  | none => rfl
  | some u =>
    cases u with
    | none => rfl
    | some o =>
      dsimp only
      cases cops ps e with
      | none => rfl
      | some r =>
        cases r with
        | ex x e' => rfl
        | ok ds e' =>
          dsimp only
          cases h2 : e'[i]? with
          | none => rfl
          | some u => cases u <;> rfl
theorem cops_v (f : M O) (ps : List P) : cops (.v f :: ps) e = @thn' _ _ (f e) ⟨fun o e1 => @thn' _ _ (cops ps e1) ⟨fun ds e2 => some (.ok (.fr o.d :: ds) e2)⟩⟩ := nr rfl
theorem sSeqD_a (f : M O) : sSeqD f e = @thn' _ _ (f e) ⟨fun o e' => (seqD o.d).map fun ds => .ok ds e'⟩ := nr rfl
theorem sRng1_a (p : P) : sRng1 p e = @thn' _ _ (ops [p] e) ⟨fun ds e' => (match ds with
    | [.int j] => if inR j = true then some (.ok (rngD 0 j) e') else none
    | _ => none)⟩ := nr rfl
theorem sRng2_a (p q : P) : sRng2 p q e = @thn' _ _ (ops [p, q] e) ⟨fun ds e' => (match ds with
    | [.int i, .int j] => if (inR i && inR j) = true then some (.ok (rngD i j) e') else none
    | _ => none)⟩ := nr rfl
theorem sEnum_a (p : P) : sEnum p e = @thn' _ _ (ops [p] e) ⟨fun ds e' => (match ds with
    | [.lst xs] => some (.ok (enumD 0 xs) e')
    | _ => none)⟩ := nr rfl
theorem eComp_a (own : List Nat) (src : M (List D)) (tg : Tg) (t : M Bool) (f : M O) : eComp own src tg t f e = @thn' _ _ (src e) ⟨fun ds e' => (match lcL own tg t f ds [] (wipeE e' own) with
    | some (acc, e2) => some (.ok (.lst acc) (restE e' e2 own))
    | none => none)⟩ := nr rfl
theorem eMut1_a (g : List D → D → Option (D × List D)) (i : Nat) (f : M O) : eMut1 g i f e = (match getO e i with
    | some (.lst _) => @thn' _ _ (f e) ⟨fun o e' => (match getO e' i with
      | some (.lst ds) => (match g ds o.d with
        | some (r, ds') => some (.ok (.fr r) (e'.set i (some (.lst ds'))))
        | none => none)
      | _ => none)⟩
    | _ => none) := by
  unfold eMut1 getO M.bind thn'
  cases h : e[i]? with
  | none => rfl
  | some u =>
    cases u with
    | none => rfl
    | some o =>
      cases o with
      | fr d => rfl
      | dct _ _ => rfl
      | ins _ _ _ => rfl
      | exn _ _ _ => rfl
      | tr _ => rfl
      | lst ds =>
        dsimp only
        cases f e with
        | none => rfl
        | some r =>
          cases r with
          | ex x e' => rfl
          | ok ds e' =>
            dsimp only
            cases h2 : e'[i]? with
            | none => rfl
            | some u => cases u with
              | none => rfl
              | some o => cases o <;> rfl
theorem eMut0_a (g : List D → Option (D × List D)) (i : Nat) : eMut0 g i e = (match getO e i with
    | some (.lst ds) => (match g ds with
      | some (r, ds') => some (.ok (.fr r) (e.set i (some (.lst ds'))))
      | none => none)
    | _ => none) := by
  unfold eMut0 getO
  cases h : e[i]? with
  | none => rfl
  | some u =>
    cases u with
    | none => rfl
    | some o => cases o <;> rfl
theorem sSetIx_a (i : Nat) (fk fv : M O) : sSetIx i fk fv e = @thn' _ _ (fv e) ⟨fun o e1 => (match getO e1 i with
    | some (.lst _) => @thn' _ _ (fk e1) ⟨fun k e2 => (match getO e2 i with
      | some (.lst ds) => (match k with
        | .fr (.int j) => (match ixN ds.length j with
          | some n => some (.ok .next (e2.set i (some (.lst (ds.set n o.d)))))
          | none => none)
        | _ => none)
      | _ => none)⟩
    | _ => none)⟩ := by
  show @thn' _ _ (fv e) ⟨_⟩ = _
  refine thn_congr fun o e1 => ?_
  unfold getO M.bind thn'
  cases h : e1[i]? with
  | none => rfl
  | some u =>
    cases u with
    | none => rfl
    | some o =>
      cases o with
      | fr d => rfl
      | dct _ _ => rfl
      | ins _ _ _ => rfl
      | exn _ _ _ => rfl
      | tr _ => rfl
      | lst ds =>
        dsimp only
        cases fk e1 with
        | none => rfl
        | some r =>
          cases r with
          | ex x e' => rfl
          | ok k e2 =>
            dsimp only
            cases h2 : e2[i]? with
            | none => rfl
            | some u => cases u with
              | none => rfl
              | some o => cases o <;> rfl
theorem eChain_a (g g2 : List D → Option O) (fa fb fc : M O) : eChain g g2 fa fb fc e = @thn' _ _ (fa e) ⟨fun oa e1 => @thn' _ _ (fb e1) ⟨fun ob e2 => (match g [oa.d, ob.d] with
    | some (.fr (.bl true)) => @thn' _ _ (fc e2) ⟨fun oc e3 => (g2 [ob.d, oc.d]).map fun o => .ok o e3⟩
    | some (.fr (.bl false)) => some (.ok (bO false) e2)
    | _ => none)⟩⟩ := nr rfl
theorem tru_a (p : P) : tru p e = @thn' _ _ (ops [p] e) ⟨fun ds e' => (match ds with
    | [d] => (truD d).map fun b => .ok b e'
    | _ => none)⟩ := nr rfl
theorem sAug_a (g : List D → Option O) (i : Nat) (f : M O) : sAug g i f e = (match getO e i with
    | some (.fr a) => @thn' _ _ (f e) ⟨fun o e' => (match g [a, o.d] with
      | some (.fr r) => some (.ok .next (e'.set i (some (.fr r))))
      | _ => none)⟩
    | _ => none) := by
  unfold sAug getO
  cases h : e[i]? with
  | none => rfl
  | some u =>
    cases u with
    | none => rfl
    | some o =>
      cases o with
      | lst _ => rfl
      | dct _ _ => rfl
      | ins _ _ _ => rfl
      | exn _ _ _ => rfl
      | tr _ => rfl
      | fr a => rfl
theorem sSetT_a (tg : Tg) (f : M O) : sSetT tg f e = @thn' _ _ (f e) ⟨fun o e' => (tg.go o.d e').map fun e2 => .ok .next e2⟩ := nr rfl
theorem apM_b (chk : D → Bool) (g : List D → Option O) (i : Nat) (ps : List P) : apM chk g (.b i) ps e = (match getO e i with
    | some o => if chk o.d = true then ap g (.b i :: ps) e else none
    | none => none) := by
  unfold apM getO
  dsimp only
  cases h : e[i]? with
  | none => rfl
  | some u => cases u <;> rfl
theorem apM_v (chk : D → Bool) (g : List D → Option O) (f : M O) (ps : List P) : apM chk g (.v f) ps e = @thn' _ _ (f e) ⟨fun o e1 => if chk o.d = true then (@thn' _ _ (ops ps e1) ⟨fun ds e' => (g (o.d :: ds)).map fun r => .ok r e'⟩) else none⟩ := by
  unfold apM
  show @thn' _ _ (f e) ⟨_⟩ = _
  refine thn_congr fun o e1 => ?_
  cases chk o.d <;> rfl
theorem eI_a (f : M O) : eI f e = @thn' _ _ (f e) ⟨fun o e' => (match o with
    | .fr (.int i) => some (.ok (.fr (.int i)) e')
    | _ => none)⟩ := by
  show @thn' _ _ (f e) ⟨_⟩ = _
  refine thn_congr fun o e' => ?_
  cases o with
  | lst _ => rfl
  | dct _ _ => rfl
  | ins _ _ _ => rfl
  | exn _ _ _ => rfl
  | tr _ => rfl
  | fr d => cases d <;> rfl
theorem mkF_a (m : Nat) (ks : List Nat) (g : M Fl) (os : List O) : mkF m ks g os = (match g (os.map some ++ List.replicate (m - os.length) none) with
    | some (.ok (.ret o) e') => (finO ks 0 os e').map (RF.ok o)
    | some (.ok .next e') => (finO ks 0 os e').map (RF.ok (.fr .non))
    | some (.ex x e') => (finO ks 0 os e').map (RF.ex x)
    | _ => none) := by
  unfold mkF
  cases g (os.map some ++ List.replicate (m - os.length) none) with
  | none => rfl
  | some r => cases r with
    | ex x e' => rfl
    | ok fl e' => cases fl <;> rfl
theorem finO_n (ks : List Nat) (k : Nat) : finO ks k [] e = some [] := nr rfl
theorem finO_c (ks : List Nat) (k : Nat) (o : O) (os : List O) : finO ks k (o :: os) e = (match (if k ∈ ks then getO e k else (match o with | .fr d => some (.fr d) | _ => none)) with
    | some o' => (finO ks (k + 1) os e).map (o' :: ·)
    | none => none) := by
  conv => lhs; unfold finO
  unfold getO
  by_cases h : k ∈ ks
  · simp only [if_pos h] <;> (rcases e[k]? with _ | (_ | _) <;> rfl)
  · simp only [if_neg h] <;> cases o <;> rfl
end
end Dn

namespace Dn
open PySem L2
theorem isi_int_non  : isi "int" .non = some false := (by decide +kernel : kitB "NoneType" "int" = some false)
theorem isi_int_bl (x : Bool) : isi "int" (.bl x) = some true := (by decide +kernel : kitB "bool" "int" = some true)
theorem isi_int_int (x : Int) : isi "int" (.int x) = some true := (by decide +kernel : kitB "int" "int" = some true)
theorem isi_int_str (x : Str) : isi "int" (.str x) = some false := (by decide +kernel : kitB "str" "int" = some false)
theorem isi_int_lst (x : List D) : isi "int" (.lst x) = some false := (by decide +kernel : kitB "list" "int" = some false)
theorem isi_int_scr (x : List Int) : isi "int" (.scr x) = some false := (by decide +kernel : kitB "list" "int" = some false)
theorem isi_int_tup (x : List D) : isi "int" (.tup x) = some false := (by decide +kernel : kitB "tuple" "int" = some false)
theorem isi_bool_non  : isi "bool" .non = some false := (by decide +kernel : kitB "NoneType" "bool" = some false)
theorem isi_bool_bl (x : Bool) : isi "bool" (.bl x) = some true := (by decide +kernel : kitB "bool" "bool" = some true)
theorem isi_bool_int (x : Int) : isi "bool" (.int x) = some false := (by decide +kernel : kitB "int" "bool" = some false)
theorem isi_bool_str (x : Str) : isi "bool" (.str x) = some false := (by decide +kernel : kitB "str" "bool" = some false)
theorem isi_bool_lst (x : List D) : isi "bool" (.lst x) = some false := (by decide +kernel : kitB "list" "bool" = some false)
theorem isi_bool_scr (x : List Int) : isi "bool" (.scr x) = some false := (by decide +kernel : kitB "list" "bool" = some false)
theorem isi_bool_tup (x : List D) : isi "bool" (.tup x) = some false := (by decide +kernel : kitB "tuple" "bool" = some false)
theorem isi_str_non  : isi "str" .non = some false := (by decide +kernel : kitB "NoneType" "str" = some false)
theorem isi_str_bl (x : Bool) : isi "str" (.bl x) = some false := (by decide +kernel : kitB "bool" "str" = some false)
theorem isi_str_int (x : Int) : isi "str" (.int x) = some false := (by decide +kernel : kitB "int" "str" = some false)
theorem isi_str_str (x : Str) : isi "str" (.str x) = some true := (by decide +kernel : kitB "str" "str" = some true)
theorem isi_str_lst (x : List D) : isi "str" (.lst x) = some false := (by decide +kernel : kitB "list" "str" = some false)
theorem isi_str_scr (x : List Int) : isi "str" (.scr x) = some false := (by decide +kernel : kitB "list" "str" = some false)
theorem isi_str_tup (x : List D) : isi "str" (.tup x) = some false := (by decide +kernel : kitB "tuple" "str" = some false)
theorem isi_list_non  : isi "list" .non = some false := (by decide +kernel : kitB "NoneType" "list" = some false)
theorem isi_list_bl (x : Bool) : isi "list" (.bl x) = some false := (by decide +kernel : kitB "bool" "list" = some false)
theorem isi_list_int (x : Int) : isi "list" (.int x) = some false := (by decide +kernel : kitB "int" "list" = some false)
theorem isi_list_str (x : Str) : isi "list" (.str x) = some false := (by decide +kernel : kitB "str" "list" = some false)
theorem isi_list_lst (x : List D) : isi "list" (.lst x) = some true := (by decide +kernel : kitB "list" "list" = some true)
theorem isi_list_scr (x : List Int) : isi "list" (.scr x) = some true := (by decide +kernel : kitB "list" "list" = some true)
theorem isi_list_tup (x : List D) : isi "list" (.tup x) = some false := (by decide +kernel : kitB "tuple" "list" = some false)
theorem isi_tuple_non  : isi "tuple" .non = some false := (by decide +kernel : kitB "NoneType" "tuple" = some false)
theorem isi_tuple_bl (x : Bool) : isi "tuple" (.bl x) = some false := (by decide +kernel : kitB "bool" "tuple" = some false)
theorem isi_tuple_int (x : Int) : isi "tuple" (.int x) = some false := (by decide +kernel : kitB "int" "tuple" = some false)
theorem isi_tuple_str (x : Str) : isi "tuple" (.str x) = some false := (by decide +kernel : kitB "str" "tuple" = some false)
theorem isi_tuple_lst (x : List D) : isi "tuple" (.lst x) = some false := (by decide +kernel : kitB "list" "tuple" = some false)
theorem isi_tuple_scr (x : List Int) : isi "tuple" (.scr x) = some false := (by decide +kernel : kitB "list" "tuple" = some false)
theorem isi_tuple_tup (x : List D) : isi "tuple" (.tup x) = some true := (by decide +kernel : kitB "tuple" "tuple" = some true)
end Dn

namespace Dn
open PySem L2

/-! ## 24. What holds of an outcome -/
class PostE (α : Type) where
  run : α → Sl → Prop
def EvC {α : Type} (r : Option (Ro α)) [Q : PostE α] [X : PostE Exn] : Prop := match r with
  | some (.ok a e) => Q.run a e
  | some (.ex x e) => X.run x e
  | none => False
def Ev {α : Type} (r : Option (Ro α)) (Q : α → Sl → Prop) (X : Exn → Sl → Prop) : Prop := @EvC _ r ⟨Q⟩ ⟨X⟩
class PostF (α : Type) where
  run : α → List O → Prop
def FEvC (r : Option RF) [Q : PostF O] [X : PostF Exn] : Prop := match r with
  | some (.ok o os) => Q.run o os
  | some (.ex x os) => X.run x os
  | none => False
def FEv (r : Option RF) (Q : O → List O → Prop) (X : Exn → List O → Prop) : Prop := @FEvC r ⟨Q⟩ ⟨X⟩
section
variable {α β : Type}
theorem Ev_d {r : Option (Ro α)} {Q : α → Sl → Prop} {X : Exn → Sl → Prop} : Ev r Q X = @EvC _ r ⟨Q⟩ ⟨X⟩ := nr rfl
theorem FEv_d {r : Option RF} {Q : O → List O → Prop} {X : Exn → List O → Prop} : FEv r Q X = @FEvC r ⟨Q⟩ ⟨X⟩ := nr rfl
theorem Ev_ok {a : α} {e : Sl} {Q : PostE α} {X : PostE Exn} : @EvC _ (some (.ok a e)) Q X = Q.run a e := nr rfl
theorem Ev_ex {x : Exn} {e : Sl} {Q : PostE α} {X : PostE Exn} : @EvC _ (some (.ex x e)) Q X = X.run x e := nr rfl
theorem Ev_none {Q : PostE α} {X : PostE Exn} : @EvC _ none Q X = False := nr rfl
theorem FEv_ok {a : O} {e : List O} {Q : PostF O} {X : PostF Exn} : @FEvC (some (.ok a e)) Q X = Q.run a e := nr rfl
theorem FEv_ex {x : Exn} {e : List O} {Q : PostF O} {X : PostF Exn} : @FEvC (some (.ex x e)) Q X = X.run x e := nr rfl
theorem FEv_none {Q : PostF O} {X : PostF Exn} : @FEvC none Q X = False := nr rfl
theorem Ev_thn {r : Option (Ro α)} {k : Kont α β} {Q : PostE β} {X : PostE Exn} : @EvC _ (@thn' _ _ r k) Q X = @EvC _ r ⟨fun a e => @EvC _ (k.run a e) Q X⟩ X := by
  cases r with
  | none => rfl
  | some r => cases r <;> rfl
theorem Ev.mono {r : Option (Ro α)} {Q Q' : α → Sl → Prop} {X X' : Exn → Sl → Prop} (h : Ev r Q X) (hq : ∀ a e, Q a e → Q' a e) (hx : ∀ x e, X x e → X' x e) : Ev r Q' X' := by
  unfold Ev EvC at *
  cases r with
  | none => exact h
  | some r => cases r with
    | ok a e => exact hq _ _ h
    | ex x e => exact hx _ _ h
theorem FEv.mono {r : Option RF} {Q Q' : O → List O → Prop} {X X' : Exn → List O → Prop} (h : FEv r Q X) (hq : ∀ a e, Q a e → Q' a e) (hx : ∀ x e, X x e → X' x e) : FEv r Q' X' := by
  unfold FEv FEvC at *
  cases r with
  | none => exact h
  | some r => cases r with
    | ok a e => exact hq _ _ h
    | ex x e => exact hx _ _ h
theorem Ev.get {r : Option (Ro α)} {Q : α → Sl → Prop} (h : Ev r Q fun _ _ => False) : ∃ a e, r = some (.ok a e) ∧ Q a e := by
  unfold Ev EvC at h
  split at h
  · exact ⟨_, _, rfl, h⟩
  · exact h.elim
  · exact h.elim
theorem FEv.get {r : Option RF} {Q : O → List O → Prop} (h : FEv r Q fun _ _ => False) : ∃ a e, r = some (.ok a e) ∧ Q a e := by
  unfold FEv FEvC at h
  split at h
  · exact ⟨_, _, rfl, h⟩
  · exact h.elim
  · exact h.elim
theorem FEv.of {r : Option RF} {o : O} {os : List O} {Q : O → List O → Prop} {X : Exn → List O → Prop} (h : r = some (.ok o os)) (q : Q o os) : FEv r Q X := by rw [h]; exact q
/-- what a def hands back, of what its body does -/
def finR (ks : List Nat) (os : List O) (r : Option (Ro Fl)) : Option RF := match r with
  | some (.ok (.ret o) e') => (finO ks 0 os e').map (RF.ok o)
  | some (.ok .next e') => (finO ks 0 os e').map (RF.ok (.fr .non))
  | some (.ex x e') => (finO ks 0 os e').map (RF.ex x)
  | _ => none
theorem mkF_e (m : Nat) (ks : List Nat) (g : M Fl) (os : List O) : mkF m ks g os = finR ks os (g (os.map some ++ List.replicate (m - os.length) none)) := mkF_a m ks g os
theorem finR_ret {ks : List Nat} {os : List O} {o : O} {e : Sl} : finR ks os (some (.ok (.ret o) e)) = (finO ks 0 os e).map (RF.ok o) := nr rfl
theorem finR_next {ks : List Nat} {os : List O} {e : Sl} : finR ks os (some (.ok .next e)) = (finO ks 0 os e).map (RF.ok (.fr .non)) := nr rfl
theorem finR_ex {ks : List Nat} {os : List O} {x : Exn} {e : Sl} : finR ks os (some (.ex x e)) = (finO ks 0 os e).map (RF.ex x) := nr rfl
theorem FEv_fin {ks : List Nat} {os : List O} {r : Option (Ro Fl)} {Q : PostF O} {X : PostF Exn} : @FEvC (finR ks os r) Q X = @EvC _ r ⟨fun fl e => match fl with
    | .ret o => @FEvC ((finO ks 0 os e).map (RF.ok o)) Q X
    | .next => @FEvC ((finO ks 0 os e).map (RF.ok (.fr .non))) Q X
    | _ => False⟩ ⟨fun x e => @FEvC ((finO ks 0 os e).map (RF.ex x)) Q X⟩ := by
  unfold finR EvC
  cases r with
  | none => rfl
  | some r => cases r with
    | ex x e => rfl
    | ok fl e => cases fl <;> rfl
/-- what a loop may do in one turn -/
def TurnOk (R : M Fl) (e : Sl) (I : Sl → Prop) (Rt : O → Sl → Prop) (Bk : Sl → Prop) (X : Exn → Sl → Prop) : Prop := Ev (R e) (fun fl e2 => match fl with
  | .next => I e2
  | .cnt => I e2
  | .brk => Bk e2
  | .ret o => Rt o e2) X
theorem Ev_forL {tg : Tg} {body : M Fl} {X : Exn → Sl → Prop} (I : Nat → Sl → Prop) (Q : Fl → Sl → Prop) : ∀ (ds : List D) (e : Sl), I 0 e →
    (∀ (i : Nat) (d : D) (e : Sl), ds[i]? = some d → I i e → ∃ e1, tg.go d e = some e1 ∧ Ev (body e1) (fun fl e2 => match fl with
      | .next => I (i + 1) e2
      | .cnt => I (i + 1) e2
      | .brk => Q .next e2
      | .ret o => Q (.ret o) e2) X) → (∀ e, I ds.length e → Q .next e) →
    Ev (forL tg body ds e) Q X
  | [], e, h0, _, hq => hq e h0
  | d :: ds, e, h0, hs, hq => by
    obtain ⟨e1, h1, h2⟩ := hs 0 d e rfl h0
    unfold Ev EvC at h2
    unfold forL
    rw [h1]
    dsimp only
    cases h3 : body e1 with
    | none => rw [h3] at h2; exact h2.elim
    | some r =>
      rw [h3] at h2
      cases r with
      | ex x e2 => exact h2
      | ok fl e2 =>
        cases fl with
        | next => exact Ev_forL (fun i => I (i + 1)) Q ds e2 h2 (fun i d e hd hi => hs (i + 1) d e hd hi) hq
        | cnt => exact Ev_forL (fun i => I (i + 1)) Q ds e2 h2 (fun i d e hd hi => hs (i + 1) d e hd hi) hq
        | brk => exact h2
        | ret o => exact h2
theorem Ev_whL {c : M Bool} {body : M Fl} {X : Exn → Sl → Prop} (I : Nat → Sl → Prop) (Q : Fl → Sl → Prop) (hs : ∀ (m : Nat) (e : Sl), I m e → Ev (c e) (fun b e1 => if b = true then Ev (body e1) (fun fl e2 => match fl with
      | .next => ∃ m', m' < m ∧ I m' e2
      | .cnt => ∃ m', m' < m ∧ I m' e2
      | .brk => Q .next e2
      | .ret o => Q (.ret o) e2) X else Q .next e1) X) : ∀ (n m : Nat) (e : Sl), m < n → I m e → Ev (whL c body n e) Q X
  | 0, _, _, h, _ => absurd h (Nat.not_lt_zero _)
  | n + 1, m, e, hn, hi => by
    have h := hs m e hi
    unfold whL M.bind
    unfold Ev EvC at h
    cases h1 : c e with
    | none => rw [h1] at h; exact h.elim
    | some r =>
      rw [h1] at h
      cases r with
      | ex x e1 => exact h
      | ok b e1 =>
        dsimp only at h ⊢
        cases b with
        | false => exact h
        | true =>
          rw [if_pos rfl] at h
          rw [if_pos rfl]
          cases h2 : body e1 with
          | none => rw [h2] at h; exact h.elim
          | some r =>
            rw [h2] at h
            cases r with
            | ex x e2 => exact h
            | ok fl e2 =>
              cases fl with
              | next => obtain ⟨m', hm, hi'⟩ := h; exact Ev_whL I Q hs n m' e2 (by omega) hi'
              | cnt => obtain ⟨m', hm, hi'⟩ := h; exact Ev_whL I Q hs n m' e2 (by omega) hi'
              | brk => exact h
              | ret o => exact h
/-- what is left of a call -/
def callR (ps : List P) (e : Sl) (r : Option RF) : Option (Ro O) := match r with
  | none => none
  | some (.ok o os') => some (.ok o (wb ps os' e))
  | some (.ex x os') => some (.ex x (wb ps os' e))
theorem callR_ok {ps : List P} {e : Sl} {o : O} {os : List O} : callR ps e (some (.ok o os)) = some (.ok o (wb ps os e)) := nr rfl
theorem callR_ex {ps : List P} {e : Sl} {x : Exn} {os : List O} : callR ps e (some (.ex x os)) = some (.ex x (wb ps os e)) := nr rfl
theorem eCall_e (F : Fn) (ps : List P) (dv : List D) (e : Sl) : eCall F ps dv e = @thn' _ _ (cops ps e) ⟨fun os e' => callR ps e' (F (os ++ dv.map .fr))⟩ := eCall_a e F ps dv
theorem Ev_callR {ps : List P} {e : Sl} {r : Option RF} {Q : PostE O} {X : PostE Exn} : @EvC _ (callR ps e r) Q X = @FEvC r ⟨fun o os' => Q.run o (wb ps os' e)⟩ ⟨fun x os' => X.run x (wb ps os' e)⟩ := by
  cases r with
  | none => rfl
  | some r => cases r <;> rfl
/-- what is left of a comprehension -/
def lcR (own : List Nat) (e : Sl) (r : Option (List D × Sl)) : Option (Ro O) := match r with
  | some (acc, e2) => some (.ok (.lst acc) (restE e e2 own))
  | none => none
theorem lcR_ok {own : List Nat} {e : Sl} {acc : List D} {e2 : Sl} : lcR own e (some (acc, e2)) = some (.ok (.lst acc) (restE e e2 own)) := nr rfl
theorem eComp_e (own : List Nat) (src : M (List D)) (tg : Tg) (t : M Bool) (f : M O) (e : Sl) : eComp own src tg t f e = @thn' _ _ (src e) ⟨fun ds e' => lcR own e' (lcL own tg t f ds [] (wipeE e' own))⟩ := nr rfl
theorem Ev_lcR {own : List Nat} {e : Sl} {r : Option (List D × Sl)} {Q : PostE O} {X : PostE Exn} : @EvC _ (lcR own e r) Q X = ∃ acc e2, r = some (acc, e2) ∧ Q.run (.lst acc) (restE e e2 own) := by
  cases r with
  | none => exact propext ⟨fun h => h.elim, fun ⟨_, _, h, _⟩ => by cases h⟩
  | some r => exact propext ⟨fun h => ⟨_, _, rfl, h⟩, fun ⟨_, _, h, q⟩ => by cases h; exact q⟩
end
theorem wipeE_n (e : Sl) : wipeE e [] = e := nr rfl
theorem wipeE_c (e : Sl) (v : Nat) (vs : List Nat) : wipeE e (v :: vs) = (wipeE e vs).set v none := nr rfl
theorem restE_n (e0 e : Sl) : restE e0 e [] = e := nr rfl
theorem restE_c (e0 e : Sl) (v : Nat) (vs : List Nat) : restE e0 e (v :: vs) = (match getO e0 v with
    | some (.fr d) => (restE e0 e vs).set v (some (.fr d))
    | _ => restE e0 e vs) := by
  conv => lhs; unfold restE
  unfold getO
  cases e0[v]? with
  | none => rfl
  | some u => cases u with
    | none => rfl
    | some o => cases o <;> rfl
theorem mul_small {i j : Int} (h : -(2 ^ 64) < i ∧ i < 2 ^ 64) : mulOk i j = true := by
  unfold mulOk
  rw [decide_eq_true h]; rfl
theorem mul_small' {i j : Int} (h : -(2 ^ 64) < j ∧ j < 2 ^ 64) : mulOk i j = true := by
  unfold mulOk
  rw [decide_eq_true h, Bool.or_true]
theorem mod_ge {a b : Int} (h : 0 < b) : 0 ≤ a % b := Int.emod_nonneg a (by omega)
theorem mod_lt {a b : Int} (h : 0 < b) : a % b < b := Int.emod_lt_of_pos a h
theorem inR_pos {i : Int} (h0 : 0 ≤ i) (h1 : i ≤ 1000000) : inR i = true := by unfold inR; exact decide_eq_true ⟨by omega, by omega⟩
theorem rngD_mem {lo hi : Int} {d : D} (h : d ∈ rngD lo hi) : ∃ i : Int, d = .int i ∧ lo ≤ i ∧ i < hi := by
  obtain ⟨k, hk⟩ := List.getElem?_of_mem h
  obtain ⟨h1, h2⟩ := rngD_get hk
  exact ⟨_, h1, by omega, by omega⟩
end Dn

namespace Dn
open PySem L2

/-! ## 25. Texts by their signs -/
abbrev zl (z : Str) : List Nat := z.cps.toList
abbrev one (c : Nat) : Str := ⟨#[c]⟩
theorem len_zl (z : Str) : z.length = (zl z).length := rfl
theorem zl_inj {a b : Str} (h : zl a = zl b) : a = b := by
  have hc : a.cps = b.cps := Array.toList_inj.mp h
  cases a; cases b
  simp only [Str.mk.injEq]; exact hc
theorem zl_app (a b : Str) : zl (a ++ b) = zl a ++ zl b := by
  show (a.cps ++ b.cps).toList = _
  exact Array.toList_append
theorem zl_one (c : Nat) : zl (one c) = [c] := rfl
theorem zl_e : zl (PySem.Str.ofString "") = [] := by decide +kernel
theorem zl_join0 : ∀ l : List Str, zl (Txt.join (PySem.Str.ofString "") l) = l.flatMap zl
  | [] => by rw [TL.join_eq]; rfl
  | [x] => by
    rw [TL.join_eq]
    show zl x = [x].flatMap zl
    rw [List.flatMap_cons, List.flatMap_nil, List.append_nil]
  | x :: y :: r => by
    have ih := zl_join0 (y :: r)
    rw [TL.join_eq] at ih ⊢
    show zl (x ++ PySem.Str.ofString "" ++ Str.join _ (y :: r)) = _
    rw [zl_app, zl_app, zl_e, List.append_nil, ih, List.flatMap_cons, List.flatMap_cons, List.flatMap_cons]
theorem zl_ones (cs : List Nat) : zl (Txt.join (PySem.Str.ofString "") (cs.map one)) = cs := by
  rw [zl_join0]
  induction cs with
  | nil => rfl
  | cons c cs ih => rw [List.map_cons, List.flatMap_cons, ih]; rfl
theorem sum_ones (cs : List Nat) : ((cs.map one).map (·.length)).sum = cs.length := by
  induction cs with
  | nil => rfl
  | cons c cs ih => rw [List.map_cons, List.map_cons, List.sum_cons, ih, List.length_cons]; show 1 + _ = _; omega
/-- the signs, one by one, set together -/
theorem gJoin_ones {cs : List Nat} (h : cs.length ≤ 10000000) : gJoin [.str (PySem.Str.ofString ""), .lst (cs.map fun c => .str (one c))] = some (sO ⟨cs.toArray⟩) := by
  have e : (cs.map fun c => D.str (one c)) = (cs.map one).map D.str := by rw [List.map_map]; rfl
  have z : (PySem.Str.ofString "").length = 0 := by decide +kernel
  rw [e]
  show (strsD ((cs.map one).map D.str)).bind _ = _
  rw [strsD_str]
  show (if ((cs.map one).map (·.length)).sum + (cs.map one).length * (PySem.Str.ofString "").length ≤ 16777216 then _ else _) = _
  rw [sum_ones, z, if_pos (by omega)]
  congr 3
  exact zl_inj (zl_ones cs)
theorem zl_mk (cs : List Nat) : zl ⟨cs.toArray⟩ = cs := rfl
theorem len_mk (cs : List Nat) : Str.length ⟨cs.toArray⟩ = cs.length := rfl
theorem len_app (a b : Str) : (a ++ b).length = a.length + b.length := Str.length_append a b
theorem len_one (c : Nat) : (one c).length = 1 := rfl
theorem len_cut (a : Str) (lo hi : Option Int) : (cutS a lo hi).length ≤ a.length := cutS_length a lo hi
def onI (f : Int → D) : D → D
  | .int r => f r
  | d => d
theorem onI_map (f : Int → D) (rs : List Int) : (rs.map D.int).map (onI f) = rs.map f := by rw [List.map_map]; rfl
/-- the first place where two rows of the same length part -/
theorem lt_at : ∀ {i : Nat} {xs ys : List Nat} {x y : Nat}, xs.take i = ys.take i → xs[i]? = some x → ys[i]? = some y → x ≠ y → (xs < ys ↔ x < y)
  | 0, x' :: xs, y' :: ys, x, y, _, h1, h2, hn => by
    have h1' : x' = x := by simpa using h1
    have h2' : y' = y := by simpa using h2
    subst h1'; subst h2'
    rw [List.cons_lt_cons_iff]
    exact ⟨fun h => h.elim id fun h => absurd h.1 hn, .inl⟩
  | 0, [], _, x, y, _, h1, _, _ => by simp at h1
  | 0, _ :: _, [], x, y, _, _, h2, _ => by simp at h2
  | i + 1, [], _, x, y, _, h1, _, _ => by simp at h1
  | i + 1, _ :: _, [], x, y, _, _, h2, _ => by simp at h2
  | i + 1, x' :: xs, y' :: ys, x, y, h, h1, h2, hn => by
    rw [List.take_succ_cons, List.take_succ_cons] at h
    injection h with ha hb
    subst ha
    rw [List.cons_lt_cons_iff, ← lt_at hb (by simpa using h1) (by simpa using h2) hn]
    exact ⟨fun h => h.elim (fun h => absurd h (Nat.lt_irrefl _)) And.right, fun h => .inr ⟨rfl, h⟩⟩
theorem take_step {α : Type} {xs ys : List α} {i : Nat} {x : α} (h : xs.take i = ys.take i) (h1 : xs[i]? = some x) (h2 : ys[i]? = some x) : xs.take (i + 1) = ys.take (i + 1) := by
  rw [List.take_succ, List.take_succ, h, h1, h2]
theorem atI_cps {z : Str} {i : Int} (h0 : 0 ≤ i) (h1 : i < z.length) : ∃ c, atI z.cps.toList i = some c ∧ (zl z)[i.toNat]? = some c := by
  have h1' : i < (zl z).length := h1
  rw [atI_nat' h0 h1']
  have h2 : i.toNat < (zl z).length := by omega
  exact ⟨_, List.getElem?_eq_getElem h2, List.getElem?_eq_getElem h2⟩
/-- (len, text) by order -/
theorem lt_lenText (a b : Str) (n m : Int) : ordOk (.tup [.int n, .str a]) (.tup [.int m, .str b]) = true ∧ W.dataLt (D.tup [.int n, .str a]).py (D.tup [.int m, .str b]).py = decide (n < m ∨ (n = m ∧ zl a < zl b)) := by
  refine ⟨by simp [ordOk, D.nx, D.nxs, D.py, D.pys, W.alike, W.alikeAll, PyData.depth, PyData.depthAll], ?_⟩
  rw [D.py, D.py, W.dataLt_tuple, D.pys, D.pys, D.pys, D.pys, D.pys, D.py, D.py, D.pys, D.py, D.py]
  by_cases h : n = m
  · subst h
    rw [W.dataLt_all_yes (by simp [W.alike]) (by simp [PyData.eqv])]
    by_cases e : a = b
    · subst e
      rw [W.dataLt_all_yes (by simp [W.alike]) (by simp [PyData.eqv])]
      rw [decide_eq_false (fun h => h.elim (fun h => by omega) fun h => absurd h.2 (List.lt_irrefl _))]
      exact PyProof.Rows.lex_irrefl _
    · rw [W.dataLt_all_no (by simp [W.alike]) (by simp [PyData.eqv, e]), W.dataLt_str]
      simp
  · rw [W.dataLt_all_no (by simp [W.alike]) (by simp [PyData.eqv, h]), W.dataLt_int]
    simp [h]
/-- a comprehension with a test, by what holds of each item: kept or not, and what is made of it -/
theorem lcL_mapE {own : List Nat} {tg : Tg} {t : M Bool} {f : M O} {e : Sl} (h : D → D) (ds : List D) (hl : ds.length < 10000000)
    (hs : ∀ d ∈ ds, ∃ e1, tg.go d e = some e1 ∧ Ev (t e1) (fun b e2 => b = true ∧ Ev (f e2) (fun o e3 => o.d = h d ∧ wipeE e3 own = e) fun _ _ => False) fun _ _ => False) : lcL own tg t f ds [] e = some (ds.map h, e) :=
  lcL_map h ds hl fun d hd => by
    obtain ⟨e1, h1, h2⟩ := hs d hd
    obtain ⟨b, e2, h3, rfl, h4⟩ := h2.get
    obtain ⟨o, e3, h5, h6, h7⟩ := h4.get
    exact ⟨e1, e2, o, e3, h1, h3, h5, h6, h7⟩
theorem lcL_filtE {own : List Nat} {tg : Tg} {t : M Bool} {f : M O} {e : Sl} (p : D → Bool) (h : D → D) : ∀ (ds acc : List D), acc.length + ds.length < 10000000 →
    (∀ d ∈ ds, ∃ e1, tg.go d e = some e1 ∧ Ev (t e1) (fun b e2 => b = p d ∧ if p d = true then Ev (f e2) (fun o e3 => o.d = h d ∧ wipeE e3 own = e) fun _ _ => False else wipeE e2 own = e) fun _ _ => False) → lcL own tg t f ds acc e = some (acc ++ (ds.filter p).map h, e)
  | [], acc, _, _ => by simp [lcL]
  | d :: ds, acc, hl, hs => by
    obtain ⟨e1, h1, h2⟩ := hs d List.mem_cons_self
    obtain ⟨b, e2, h3, rfl, h4⟩ := h2.get
    have hz : acc.length < sizeLine := by rw [sizeLine_eq]; rw [List.length_cons] at hl; omega
    have hs' := fun d' h => hs d' (List.mem_cons_of_mem _ h)
    rw [List.length_cons] at hl
    cases hp : p d with
    | true =>
      rw [hp, if_pos rfl] at h4
      obtain ⟨o, e3, h5, h6, h7⟩ := h4.get
      have ih := lcL_filtE (own := own) (tg := tg) (t := t) (f := f) (e := e) p h ds (acc ++ [o.d]) (by rw [List.length_append]; simp only [List.length_cons, List.length_nil]; omega) hs'
      rw [h6] at ih
      simp [lcL, h1, h3, hp, h5, hz, h7, ih, h6]
    | false =>
      rw [hp, if_neg Bool.noConfusion] at h4
      have ih := lcL_filtE (own := own) (tg := tg) (t := t) (f := f) (e := e) p h ds acc (by omega) hs'
      simp [lcL, h1, h3, hp, h4, ih]
end Dn

namespace Dn
open PySem L2

/-! ## 26. The operations, case by case -/
section
variable {i j : Int} {a b z : Str} {p q : Bool} {ds es : List D} {ns : List Int} {d x y : D}
theorem gAdd_i : gAdd [.int i, .int j] = some (iO (i + j)) := nr rfl
theorem gAdd_z (h : a.length + b.length ≤ sizeLine) : gAdd [.str a, .str b] = some (sO (a ++ b)) := if_pos h
theorem gAdd_l (h : ds.length + es.length ≤ sizeLine) : gAdd [.lst ds, .lst es] = some (.lst (ds ++ es)) := if_pos h
theorem gAdd_t (h : ds.length + es.length ≤ sizeLine) : gAdd [.tup ds, .tup es] = some (.fr (.tup (ds ++ es))) := if_pos h
theorem gAddI_i : gAddI [.int i, .int j] = some (iO (i + j)) := nr rfl
theorem gSub_i : Dn.gSub [.int i, .int j] = some (iO (i - j)) := nr rfl
theorem gMul_i (h : mulOk i j = true) : gMul [.int i, .int j] = some (iO (i * j)) := if_pos h
theorem gDiv_i (h : j ≠ 0) (h' : j.natAbs < 1073741824) : gDiv [.int i, .int j] = some (iO (i.fdiv j)) := if_pos ⟨h, h'⟩
theorem gMod_i (h : j ≠ 0) : gMod [.int i, .int j] = some (iO (i.fmod j)) := if_pos h
theorem gPow_i (h : 0 ≤ j ∧ j ≤ 1000000 ∧ i.natAbs < 2 ^ 64) : gPow [.int i, .int j] = some (iO (i ^ j.toNat)) := if_pos h
theorem gNeg_i : gNeg [.int i] = some (iO (-i)) := nr rfl
theorem gEq_i : gEq [.int i, .int j] = some (bO (decide (i = j))) := nr rfl
theorem gEq_z : gEq [.str a, .str b] = some (bO (decide (a = b))) := nr rfl
theorem gEq_b : gEq [.bl p, .bl q] = some (bO (decide (p = q))) := nr rfl
theorem gNe_i : gNe [.int i, .int j] = some (bO (!decide (i = j))) := nr rfl
theorem gNe_z : gNe [.str a, .str b] = some (bO (!decide (a = b))) := nr rfl
theorem gNe_b : gNe [.bl p, .bl q] = some (bO (!decide (p = q))) := nr rfl
theorem gEq_l (h : shp (.lst ds) = true) (h' : shp y = true) : gEq [.lst ds, y] = some (bO (D.eqv (.lst ds) y)) := if_pos (by rw [h, h']; rfl)
theorem gEq_t (h : shp (.tup ds) = true) (h' : shp y = true) : gEq [.tup ds, y] = some (bO (D.eqv (.tup ds) y)) := if_pos (by rw [h, h']; rfl)
theorem gEq_s (h : shp (.scr ns) = true) (h' : shp y = true) : gEq [.scr ns, y] = some (bO (D.eqv (.scr ns) y)) := if_pos (by rw [h, h']; rfl)
theorem gEq_n (h' : shp y = true) : gEq [.non, y] = some (bO (D.eqv .non y)) := if_pos (by rw [h']; rfl)
theorem gNe_l (h : shp (.lst ds) = true) (h' : shp y = true) : gNe [.lst ds, y] = some (bO (!D.eqv (.lst ds) y)) := if_pos (by rw [h, h']; rfl)
theorem gNe_t (h : shp (.tup ds) = true) (h' : shp y = true) : gNe [.tup ds, y] = some (bO (!D.eqv (.tup ds) y)) := if_pos (by rw [h, h']; rfl)
theorem gNe_s (h : shp (.scr ns) = true) (h' : shp y = true) : gNe [.scr ns, y] = some (bO (!D.eqv (.scr ns) y)) := if_pos (by rw [h, h']; rfl)
theorem gNe_n (h' : shp y = true) : gNe [.non, y] = some (bO (!D.eqv .non y)) := if_pos (by rw [h']; rfl)
theorem gLt_i : gLt [.int i, .int j] = some (bO (decide (i < j))) := nr rfl
theorem gGt_i : gGt [.int i, .int j] = some (bO (decide (j < i))) := nr rfl
theorem gLe_i : gLe [.int i, .int j] = some (bO (decide (i ≤ j))) := nr rfl
theorem gGe_i : gGe [.int i, .int j] = some (bO (decide (j ≤ i))) := nr rfl
theorem gLt_t (h : ordOk (.tup ds) y = true) : gLt [.tup ds, y] = some (bO (W.dataLt (D.tup ds).py y.py)) := if_pos h
theorem gGt_t (h : ordOk (.tup ds) y = true) : gGt [.tup ds, y] = some (bO (W.dataLt y.py (D.tup ds).py)) := if_pos h
theorem gLe_t (h : ordOk (.tup ds) y = true) : gLe [.tup ds, y] = some (bO (!W.dataLt y.py (D.tup ds).py)) := if_pos h
theorem gGe_t (h : ordOk (.tup ds) y = true) : gGe [.tup ds, y] = some (bO (!W.dataLt (D.tup ds).py y.py)) := if_pos h
theorem gLt_l (h : ordOk (.lst ds) y = true) : gLt [.lst ds, y] = some (bO (W.dataLt (D.lst ds).py y.py)) := if_pos h
theorem gGt_l (h : ordOk (.lst ds) y = true) : gGt [.lst ds, y] = some (bO (W.dataLt y.py (D.lst ds).py)) := if_pos h
theorem gLe_l (h : ordOk (.lst ds) y = true) : gLe [.lst ds, y] = some (bO (!W.dataLt y.py (D.lst ds).py)) := if_pos h
theorem gGe_l (h : ordOk (.lst ds) y = true) : gGe [.lst ds, y] = some (bO (!W.dataLt (D.lst ds).py y.py)) := if_pos h
theorem ord_z : ordOk (.str a) (.str b) = true := by simp [ordOk, D.nx, D.py, W.alike, PyData.depth]
theorem gLt_z : gLt [.str a, .str b] = some (bO (decide (zl a < zl b))) := by
  show (if ordOk (.str a) (.str b) = true then some (bO (W.dataLt (D.str a).py (D.str b).py)) else none) = _
  rw [if_pos ord_z, D.py, D.py, W.dataLt_str]
theorem gGt_z : gGt [.str a, .str b] = some (bO (decide (zl b < zl a))) := by
  show (if ordOk (.str a) (.str b) = true then some (bO (W.dataLt (D.str b).py (D.str a).py)) else none) = _
  rw [if_pos ord_z, D.py, D.py, W.dataLt_str]
theorem gLe_z : gLe [.str a, .str b] = some (bO (!decide (zl b < zl a))) := by
  show (if ordOk (.str a) (.str b) = true then some (bO (!W.dataLt (D.str b).py (D.str a).py)) else none) = _
  rw [if_pos ord_z, D.py, D.py, W.dataLt_str]
theorem gGe_z : gGe [.str a, .str b] = some (bO (!decide (zl a < zl b))) := by
  show (if ordOk (.str a) (.str b) = true then some (bO (!W.dataLt (D.str a).py (D.str b).py)) else none) = _
  rw [if_pos ord_z, D.py, D.py, W.dataLt_str]
theorem gIsN_n : gIsN [.non, .non] = some (bO true) := nr rfl
theorem gIsN_b : gIsN [.bl p, .non] = some (bO false) := nr rfl
theorem gIsN_i : gIsN [.int i, .non] = some (bO false) := nr rfl
theorem gIsN_z : gIsN [.str a, .non] = some (bO false) := nr rfl
theorem gIsN_l : gIsN [.lst ds, .non] = some (bO false) := nr rfl
theorem gIsN_t : gIsN [.tup ds, .non] = some (bO false) := nr rfl
theorem gIsN_s : gIsN [.scr ns, .non] = some (bO false) := nr rfl
theorem gIsN_bb : gIsN [.bl p, .bl q] = some (bO (decide (p = q))) := nr rfl
theorem gNotN_n : gNotN [.non, .non] = some (bO false) := nr rfl
theorem gNotN_b : gNotN [.bl p, .non] = some (bO true) := nr rfl
theorem gNotN_i : gNotN [.int i, .non] = some (bO true) := nr rfl
theorem gNotN_z : gNotN [.str a, .non] = some (bO true) := nr rfl
theorem gNotN_l : gNotN [.lst ds, .non] = some (bO true) := nr rfl
theorem gNotN_t : gNotN [.tup ds, .non] = some (bO true) := nr rfl
theorem gNotN_s : gNotN [.scr ns, .non] = some (bO true) := nr rfl
theorem gNotN_bb : gNotN [.bl p, .bl q] = some (bO (!decide (p = q))) := nr rfl
theorem gIn_z : gIn [.str a, .str b] = some (bO (inStr a b)) := nr rfl
theorem gIn_l (h : shp x = true) (h' : shp (.lst ds) = true) : gIn [x, .lst ds] = some (bO (inL x ds)) := by
  have : (if (shp x && shp (.lst ds)) = true then some (bO (inL x ds)) else none) = some (bO (inL x ds)) := if_pos (by rw [h, h']; rfl)
  cases x <;> exact this
theorem gIn_t (h : shp x = true) (h' : shp (.tup ds) = true) : gIn [x, .tup ds] = some (bO (inL x ds)) := by
  have : (if (shp x && shp (.tup ds)) = true then some (bO (inL x ds)) else none) = some (bO (inL x ds)) := if_pos (by rw [h, h']; rfl)
  cases x <;> exact this
theorem gNotIn_z : gNotIn [.str a, .str b] = some (bO (!inStr a b)) := nr rfl
theorem gNotIn_l (h : shp x = true) (h' : shp (.lst ds) = true) : gNotIn [x, .lst ds] = some (bO (!inL x ds)) := by
  have : (if (shp x && shp (.lst ds)) = true then some (bO (!inL x ds)) else none) = some (bO (!inL x ds)) := if_pos (by rw [h, h']; rfl)
  cases x <;> exact this
theorem gNotIn_t (h : shp x = true) (h' : shp (.tup ds) = true) : gNotIn [x, .tup ds] = some (bO (!inL x ds)) := by
  have : (if (shp x && shp (.tup ds)) = true then some (bO (!inL x ds)) else none) = some (bO (!inL x ds)) := if_pos (by rw [h, h']; rfl)
  cases x <;> exact this
theorem gIx_l : gIx [.lst ds, .int i] = (atI ds i).map .fr := nr rfl
theorem gIx_t : gIx [.tup ds, .int i] = (atI ds i).map .fr := nr rfl
theorem gIx_s : gIx [.scr ns, .int i] = (atI ns i).map iO := nr rfl
theorem gIx_z (h : z.length ≤ sizeLine) : gIx [.str z, .int i] = (atI z.cps.toList i).map fun c => sO (one c) := if_pos h
theorem gLen_l : gLen [.lst ds] = some (iO ds.length) := nr rfl
theorem gLen_t : gLen [.tup ds] = some (iO ds.length) := nr rfl
theorem gLen_s : gLen [.scr ns] = some (iO ns.length) := nr rfl
theorem gLen_z (h : z.length ≤ sizeLine) : gLen [.str z] = some (iO z.length) := if_pos h
theorem gInt_i : gInt [.int i] = some (iO i) := nr rfl
theorem gInt_b : gInt [.bl p] = some (iO (if p then 1 else 0)) := nr rfl
theorem gAbs_i : gAbs [.int i] = some (iO (if i < 0 then -i else i)) := nr rfl
theorem gOrd_1 {c : Nat} : gOrd [.str (one c)] = some (iO (c : Int)) := nr rfl
theorem gList_l : gList [.lst ds] = some (.lst ds) := nr rfl
theorem gList_t : gList [.tup ds] = some (.lst ds) := nr rfl
theorem gList_s : gList [.scr ns] = some (.lst (ns.map .int)) := nr rfl
theorem gTuple_l : gTuple [.lst ds] = some (.fr (.tup ds)) := nr rfl
theorem gTuple_t : gTuple [.tup ds] = some (.fr (.tup ds)) := nr rfl
theorem gApp_q (h : ds.length < sizeLine) : gApp ds d = some (.non, ds ++ [d]) := if_pos h
theorem gPop_q : gPop ds = (ds[ds.length - 1]?).map fun y => (y, ds.dropLast) := nr rfl
theorem gPop0_q (h : -(2 ^ 63) ≤ i ∧ i < 2 ^ 63) : gPop0 ds (.int i) = (ixN ds.length i).bind fun k => (ds[k]?).map fun y => (y, ds.eraseIdx k) := if_pos h
theorem gExt_q (h : ds.length + es.length ≤ sizeLine) : gExt ds (.lst es) = some (.non, ds ++ es) := if_pos h
theorem gRev_q : gRev ds = some (.non, ds.reverse) := nr rfl
theorem gIsi_q {T : String} : gIsi T [d] = (isi T d).map bO := nr rfl
theorem gSl00 : gSl false false [d] = slD d none none := nr rfl
theorem gSl10 : gSl true false [d, .int i] = slD d (some i) none := nr rfl
theorem gSl01 : gSl false true [d, .int j] = slD d none (some j) := nr rfl
theorem gSl11 : gSl true true [d, .int i, .int j] = slD d (some i) (some j) := nr rfl
theorem slD_l {lo hi : Option Int} : slD (.lst ds) lo hi = some (.lst (cutD ds lo hi)) := nr rfl
theorem slD_t {lo hi : Option Int} : slD (.tup ds) lo hi = some (.fr (.tup (cutD ds lo hi))) := nr rfl
theorem slD_s {lo hi : Option Int} : slD (.scr ns) lo hi = some (.lst ((cutD ns lo hi).map .int)) := nr rfl
theorem slD_z {lo hi : Option Int} (h : z.length ≤ sizeLine) : slD (.str z) lo hi = some (sO (cutS z lo hi)) := if_pos h
theorem gRevS_l : gRevS [.lst ds] = some (.lst ds.reverse) := nr rfl
theorem gCount_z : gCount [.str a, .str b] = some (iO (Txt.count a b)) := nr rfl
theorem gStarts_z : gStarts [.str a, .str b] = some (bO (Txt.startswith a b)) := nr rfl
theorem gRstrip_z (h : a.length ≤ sizeLine) : gRstrip [.str a, .str b] = some (sO (Txt.rstripChars a b)) := if_pos h
theorem seqD_l : seqD (.lst ds) = some ds := nr rfl
theorem seqD_t : seqD (.tup ds) = some ds := nr rfl
theorem seqD_s : seqD (.scr ns) = some (ns.map .int) := nr rfl
theorem seqD_z : seqD (.str z) = some (signs z) := nr rfl
def rgR1 (ds : List D) (e : Sl) : Option (Ro (List D)) := match ds with
    | [.int j] => if inR j = true then some (.ok (rngD 0 j) e) else none
    | _ => none
def rgR2 (ds : List D) (e : Sl) : Option (Ro (List D)) := match ds with
    | [.int i, .int j] => if (inR i && inR j) = true then some (.ok (rngD i j) e) else none
    | _ => none
theorem sRng1_e (p : P) (e : Sl) : sRng1 p e = @thn' _ _ (ops [p] e) ⟨fun ds e' => rgR1 ds e'⟩ := nr rfl
theorem sRng2_e (p q : P) (e : Sl) : sRng2 p q e = @thn' _ _ (ops [p, q] e) ⟨fun ds e' => rgR2 ds e'⟩ := nr rfl
theorem rgR1_q {e : Sl} (h : inR j = true) : rgR1 [.int j] e = some (.ok (rngD 0 j) e) := if_pos h
theorem rgR2_q {e : Sl} (h : inR i = true) (h' : inR j = true) : rgR2 [.int i, .int j] e = some (.ok (rngD i j) e) := if_pos (by rw [h, h']; rfl)
theorem inR_len {α : Type} {l : List α} (h : l.length ≤ 10000000) : inR (l.length : Int) = true := by unfold inR; exact decide_eq_true ⟨by omega, by omega⟩
theorem rng0_get {hi : Int} {i : Nat} {d : D} (h : (rngD 0 hi)[i]? = some d) : d = .int i ∧ (i : Int) < hi := by
  obtain ⟨h1, h2⟩ := rngD_get h
  rw [Int.zero_add] at h1
  exact ⟨h1, by omega⟩
theorem rng0_len {n : Nat} : (rngD 0 (n : Int)).length = n := by rw [rngD_len]; omega
/-- short texts: the library's limit, told as a limit of ours -/
theorem sz_of (h : z.length ≤ 10000000) : z.length ≤ sizeLine := by rw [sl_val]; omega
theorem sz_lit {c : Nat} : (one c).length ≤ sizeLine := by rw [sl_val]; show 1 ≤ 16777216; omega
theorem sz2_of (h : a.length + b.length ≤ 10000000) : a.length + b.length ≤ sizeLine := by rw [sl_val]; omega
theorem szl_of (h : ds.length + es.length ≤ 10000000) : ds.length + es.length ≤ sizeLine := by rw [sl_val]; omega
theorem szl1_of' {n : Nat} (h : n < 10000000) : n < sizeLine := by rw [sl_val]; omega
theorem szl1_of (h : ds.length < 10000000) : ds.length < sizeLine := by rw [sl_val]; omega
end
end Dn

namespace Dn
open PySem L2

/-! ## 27. Loops by what is done -/
/-- a for: I of the part that is done -/
theorem Ev_forP {α : Type} {f : α → D} {tg : Tg} {body : M Fl} {X : Exn → Sl → Prop} (I : List α → Sl → Prop) (Q : Fl → Sl → Prop) : ∀ (xs done : List α) (e : Sl), I done e →
    (∀ (pre : List α) (x : α) (post : List α) (e : Sl), done ++ xs = pre ++ x :: post → I pre e → ∃ e1, tg.go (f x) e = some e1 ∧ Ev (body e1) (fun fl e2 => match fl with
      | .next => I (pre ++ [x]) e2
      | .cnt => I (pre ++ [x]) e2
      | .brk => Q .next e2
      | .ret o => Q (.ret o) e2) X) → (∀ e, I (done ++ xs) e → Q .next e) →
    Ev (forL tg body (xs.map f) e) Q X
  | [], done, e, h0, _, hq => hq e (by rw [List.append_nil]; exact h0)
  | x :: xs, done, e, h0, hs, hq => by
    obtain ⟨e1, h1, h2⟩ := hs done x xs e rfl h0
    unfold Ev EvC at h2
    rw [List.map_cons]
    unfold forL
    rw [h1]
    dsimp only
    have e3 : done ++ [x] ++ xs = done ++ x :: xs := by rw [List.append_assoc]; rfl
    cases h3 : body e1 with
    | none => rw [h3] at h2; exact h2.elim
    | some r =>
      rw [h3] at h2
      cases r with
      | ex x e2 => exact h2
      | ok fl e2 =>
        cases fl with
        | next => exact Ev_forP I Q xs (done ++ [x]) e2 h2 (fun pre y post e he => hs pre y post e (by rw [← e3]; exact he)) (fun e he => hq e (by rw [← e3]; exact he))
        | cnt => exact Ev_forP I Q xs (done ++ [x]) e2 h2 (fun pre y post e he => hs pre y post e (by rw [← e3]; exact he)) (fun e he => hq e (by rw [← e3]; exact he))
        | brk => exact h2
        | ret o => exact h2
/-- over the signs of a text -/
theorem signs_map (z : Str) : signs z = (zl z).map fun c => D.str (one c) := rfl
theorem Ev_forZ {z : Str} {tg : Tg} {body : M Fl} {X : Exn → Sl → Prop} {e : Sl} (I : List Nat → Sl → Prop) (Q : Fl → Sl → Prop) (h0 : I [] e)
    (hs : ∀ (pre : List Nat) (c : Nat) (post : List Nat) (e : Sl), zl z = pre ++ c :: post → I pre e → ∃ e1, tg.go (.str (one c)) e = some e1 ∧ Ev (body e1) (fun fl e2 => match fl with
      | .next => I (pre ++ [c]) e2
      | .cnt => I (pre ++ [c]) e2
      | .brk => Q .next e2
      | .ret o => Q (.ret o) e2) X) (hq : ∀ e, I (zl z) e → Q .next e) : Ev (forL tg body (signs z) e) Q X :=
  Ev_forP (f := fun c => D.str (one c)) I Q (zl z) [] e h0 (fun pre x post e he => hs pre x post e he) hq
theorem mem_mid {α : Type} {pre post xs : List α} {x : α} (h : xs = pre ++ x :: post) : x ∈ xs := by rw [h]; exact List.mem_append_right _ List.mem_cons_self
/-- a remainder as both languages have it -/
theorem fm_bd {x m : Int} (h : 0 < m) : 0 ≤ x.fmod m ∧ x.fmod m < m := by rw [fmod_pos h]; exact ⟨mod_ge h, mod_lt h⟩
end Dn

namespace Dn
open PySem L2

/-! ## 28. Data side by side -/
/-- data no deeper than k that the library can lay side by side -/
def Shp (k : Nat) (d : D) : Prop := d.py.canLay0 = true ∧ d.py.depth ≤ k
theorem Shp.shp {k : Nat} {d : D} (h : Shp k d) (hk : k ≤ 64) : shp d = true := by
  unfold Dn.shp SeqAt.shaped
  rw [h.1, decide_eq_true (Nat.le_trans h.2 hk)]; rfl
theorem Shp.mono {k j : Nat} {d : D} (h : Shp k d) (hk : k ≤ j) : Shp j d := ⟨h.1, Nat.le_trans h.2 hk⟩
theorem shp_non : Shp 0 .non := ⟨by rw [D.py]; simp [PyData.canLay0], by rw [D.py]; simp [PyData.depth]⟩
theorem shp_bl (b : Bool) : Shp 0 (.bl b) := ⟨by rw [D.py]; simp [PyData.canLay0], by rw [D.py]; simp [PyData.depth]⟩
theorem shp_int (i : Int) : Shp 0 (.int i) := ⟨by rw [D.py]; simp [PyData.canLay0], by rw [D.py]; simp [PyData.depth]⟩
theorem Shps {k : Nat} : ∀ {ds : List D}, (∀ d ∈ ds, Shp k d) → PyData.canLayAll0 (D.pys ds) = true ∧ PyData.depthAll (D.pys ds) ≤ k
  | [], _ => by rw [D.pys]; simp [PyData.canLayAll0, PyData.depthAll]
  | d :: ds, h => by
    have h1 := h d List.mem_cons_self
    have h2 := Shps fun d' hd => h d' (List.mem_cons_of_mem _ hd)
    rw [D.pys, PyData.canLayAll0, PyData.depthAll, h1.1, h2.1]
    exact ⟨rfl, Nat.max_le.mpr ⟨h1.2, h2.2⟩⟩
theorem shp_lst {k : Nat} {ds : List D} (h : ∀ d ∈ ds, Shp k d) : Shp (k + 1) (.lst ds) := by
  have := Shps h
  refine ⟨by rw [D.py, PyData.canLay0]; exact this.1, by rw [D.py, PyData.depth]; exact Nat.succ_le_succ this.2⟩
theorem shp_tup {k : Nat} {ds : List D} (h : ∀ d ∈ ds, Shp k d) : Shp (k + 1) (.tup ds) := by
  have := Shps h
  refine ⟨by rw [D.py, PyData.canLay0]; exact this.1, by rw [D.py, PyData.depth]; exact Nat.succ_le_succ this.2⟩
theorem shp_str {z : Str} (h : ∀ c ∈ zl z, c < 1114112) : Shp 0 (.str z) := by
  refine ⟨?_, by rw [D.py]; simp [PyData.depth]⟩
  rw [D.py, PyData.canLay0]
  show z.cps.all (· < 0x110000) = true
  rw [← Array.all_toList]
  exact List.all_eq_true.mpr fun c hc => decide_eq_true (h c hc)
theorem eqv_i (i j : Int) : D.eqv (.int i) (.int j) = decide (i = j) := by
  unfold D.eqv; rw [D.py, D.py, PyData.eqv]
  by_cases h : i = j <;> simp [h]
theorem eqv_z (a b : Str) : D.eqv (.str a) (.str b) = decide (a = b) := by
  unfold D.eqv; rw [D.py, D.py, PyData.eqv]
  by_cases h : a = b <;> simp [h]
theorem eqv_nn : D.eqv .non .non = true := by
  unfold D.eqv; rw [D.py]; simp [PyData.eqv]
/-- whole numbers from nought on, as data -/
def nl (ks : List Nat) : List D := ks.map fun (k : Nat) => D.int (k : Int)
theorem nl_app (a b : List Nat) : nl (a ++ b) = nl a ++ nl b := List.map_append
theorem nl_len (a : List Nat) : (nl a).length = a.length := List.length_map _
theorem shp_nl (ks : List Nat) : ∀ d ∈ nl ks, Shp 0 d := fun d hd => by
  obtain ⟨k, _, rfl⟩ := List.mem_map.mp hd
  exact shp_int _
theorem shp_nl_l (ks : List Nat) : shp (.lst (nl ks)) = true := (shp_lst (shp_nl ks)).shp (by omega)
theorem shp_nl_t (ks : List Nat) : shp (.tup (nl ks)) = true := (shp_tup (shp_nl ks)).shp (by omega)
theorem shp_i (i : Int) : shp (.int i) = true := (shp_int i).shp (by omega)
theorem inL_nl (i : Int) (ks : List Nat) : inL (.int i) (nl ks) = decide (∃ k ∈ ks, (k : Int) = i) := by
  unfold inL nl
  rw [List.any_map]
  by_cases h : ∃ k ∈ ks, (k : Int) = i
  · rw [decide_eq_true h]
    obtain ⟨k, hk, e⟩ := h
    exact List.any_eq_true.mpr ⟨k, hk, by show D.eqv _ _ = true; rw [eqv_i]; exact decide_eq_true e⟩
  · rw [decide_eq_false h]
    refine List.any_eq_false.mpr fun k hk => ?_
    show ¬ D.eqv _ _ = true
    rw [eqv_i]
    simp only [decide_eq_true_eq]
    exact fun e => h ⟨k, hk, e⟩
theorem inL_nat (n : Nat) (ks : List Nat) : inL (.int (n : Int)) (nl ks) = decide (n ∈ ks) := by
  rw [inL_nl]
  by_cases h : n ∈ ks
  · rw [decide_eq_true h, decide_eq_true ⟨n, h, rfl⟩]
  · rw [decide_eq_false h, decide_eq_false]
    rintro ⟨k, hk, e⟩
    have : k = n := by omega
    exact h (this ▸ hk)
mutual
def D.pl : D → Bool
  | .non => true
  | .bl _ => false
  | .int _ => true
  | .str _ => true
  | .lst xs => D.pls xs
  | .tup xs => D.pls xs
  | .scr _ => false
  | .opq => false
  | .dct _ _ => false
  | .ins _ _ _ => false
def D.pls : List D → Bool
  | [] => true
  | x :: xs => D.pl x && D.pls xs
end
mutual
theorem D.eqv_same : ∀ {a b : D}, a.pl = true → b.pl = true → (D.eqv a b = true ↔ a = b)
  | .non, b, _, hb => by
    cases b <;> first | (exact absurd hb Bool.noConfusion) | (unfold D.eqv; rw [D.py]; rw [D.py]; simp [PyData.eqv]) | (unfold D.eqv; rw [D.py]; simp [PyData.eqv])
  | .int i, b, _, hb => by
    cases b <;> first | (exact absurd hb Bool.noConfusion) | (unfold D.eqv; rw [D.py]; rw [D.py]; simp [PyData.eqv])
  | .str i, b, _, hb => by
    cases b <;> first | (exact absurd hb Bool.noConfusion) | (unfold D.eqv; rw [D.py]; rw [D.py]; simp [PyData.eqv])
  | .lst xs, b, ha, hb => by
    cases b with
    | bl _ => exact absurd hb Bool.noConfusion
    | scr _ => exact absurd hb Bool.noConfusion
    | opq => exact absurd hb Bool.noConfusion
    | dct _ _ => exact absurd hb Bool.noConfusion
    | ins _ _ _ => exact absurd hb Bool.noConfusion
    | lst ys =>
      unfold D.eqv; rw [D.py, D.py, PyData.eqv]
      rw [D.eqvs_same (show D.pls xs = true by rw [D.pl] at ha; exact ha) (show D.pls ys = true by rw [D.pl] at hb; exact hb)]
      simp
    | _ => unfold D.eqv; rw [D.py]; rw [D.py]; simp [PyData.eqv]
  | .tup xs, b, ha, hb => by
    cases b with
    | bl _ => exact absurd hb Bool.noConfusion
    | scr _ => exact absurd hb Bool.noConfusion
    | opq => exact absurd hb Bool.noConfusion
    | dct _ _ => exact absurd hb Bool.noConfusion
    | ins _ _ _ => exact absurd hb Bool.noConfusion
    | tup ys =>
      unfold D.eqv; rw [D.py, D.py, PyData.eqv]
      rw [D.eqvs_same (show D.pls xs = true by rw [D.pl] at ha; exact ha) (show D.pls ys = true by rw [D.pl] at hb; exact hb)]
      simp
    | _ => unfold D.eqv; rw [D.py]; rw [D.py]; simp [PyData.eqv]
  | .bl _, _, ha, _ => absurd ha Bool.noConfusion
  | .scr _, _, ha, _ => absurd ha Bool.noConfusion
  | .opq, _, ha, _ => absurd ha Bool.noConfusion
  | .dct _ _, _, ha, _ => absurd ha Bool.noConfusion
  | .ins _ _ _, _, ha, _ => absurd ha Bool.noConfusion
theorem D.eqvs_same : ∀ {as bs : List D}, D.pls as = true → D.pls bs = true → (PyData.eqvAll (D.pys as) (D.pys bs) = true ↔ as = bs)
  | [], [], _, _ => by rw [D.pys]; simp [PyData.eqvAll]
  | [], b :: bs, _, _ => by rw [D.pys, D.pys]; simp [PyData.eqvAll]
  | a :: as, [], _, _ => by rw [D.pys, D.pys]; simp [PyData.eqvAll]
  | a :: as, b :: bs, ha, hb => by
    rw [D.pls, Bool.and_eq_true] at ha hb
    rw [D.pys, D.pys, PyData.eqvAll, Bool.and_eq_true, List.cons.injEq]
    exact and_congr (D.eqv_same ha.1 hb.1) (D.eqvs_same ha.2 hb.2)
end
theorem D.pls_of {ds : List D} (h : ∀ d ∈ ds, d.pl = true) : D.pls ds = true := by
  induction ds with
  | nil => rw [D.pls]
  | cons d ds ih => rw [D.pls, h d List.mem_cons_self, ih fun x hx => h x (List.mem_cons_of_mem _ hx)]; rfl
theorem inL_pl {x : D} {ds : List D} (hx : x.pl = true) (hs : ∀ d ∈ ds, d.pl = true) : inL x ds = true ↔ x ∈ ds := by
  unfold inL
  rw [List.any_eq_true]
  exact ⟨fun ⟨y, hy, e⟩ => (D.eqv_same (hs y hy) hx).mp e ▸ hy, fun h => ⟨x, h, (D.eqv_same hx hx).mpr rfl⟩⟩
theorem inL_no {x : D} {ds : List D} (hx : x.pl = true) (hs : ∀ d ∈ ds, d.pl = true) (h : x ∉ ds) : inL x ds = false := Bool.eq_false_iff.mpr fun z => h ((inL_pl hx hs).mp z)
end Dn

namespace Dn
open PySem L2
open Evl (Ex)

/-! ## 29. A text times a number -/
def gMulS : List D → Option O
  | [.str a, .int n] => if 0 ≤ n ∧ n ≤ 100000 ∧ a.length ≤ 100 then some (sO (Txt.mul a n)) else none
  | _ => none
def rMulS : R2 := fun x y H Q => ∃ a n, x = .str a ∧ y = .int n ∧ MulOk a n ∧ Q (.str (Txt.mul a n)) H
theorem o_mulS {X : Cx} : OpR X (binaryOp .Mult) rMulS := by
  intro pins s σ H x y v u Q I rx ry h
  obtain ⟨i, j, rfl, rfl, hz, q⟩ := h
  obtain ⟨t, rfl⟩ := rx
  obtain ⟨t', rfl⟩ := ry
  exact SB.mul hz (fun t' k => ⟨.str (Txt.mul i j), H, I.tok _, ⟨_, rfl⟩, q⟩)
theorem mulS_ok {a : Str} {n : Int} (h0 : 0 ≤ n) (h1 : n ≤ 100000) (h2 : a.length ≤ 100) : MulOk a n := by
  refine ⟨?_, fun hn _ => ?_, fun _ _ => ?_⟩
  · rw [decide_eq_false (by omega), decide_eq_false (by omega)]; rfl
  · have : (100 : Int) ≤ (2 ^ 63 - 1) / n := (Int.le_ediv_iff_mul_le (by omega)).mpr (by omega)
    omega
  · show decide (a.length * n.toNat > sizeLine) = false
    rw [sl_val]
    refine decide_eq_false ?_
    have h3 : n.toNat ≤ 100000 := by omega
    have := Nat.mul_le_mul h2 h3
    omega
theorem n_mulS {K : PySem.W.Frag} : Snd2 K rMulS gMulS := fun B H x y a b o hx ha hb hg Q q => by
  cases a <;> cases b <;> simp only [gMulS] at hg <;> (try cases hg)
  split at hg
  · rename_i hc
    cases hg; cases ha; cases hb
    exact ⟨_, _, rfl, rfl, mulS_ok hc.1 hc.2.1 hc.2.2, q.fr hx (.str _)⟩
  · cases hg
theorem gMulS_q {a : Str} {n : Int} (h : 0 ≤ n ∧ n ≤ 100000 ∧ a.length ≤ 100) : gMulS [.str a, .int n] = some (sO (Txt.mul a n)) := if_pos h
theorem zl_mul1 (c : Nat) (n : Int) : zl (Txt.mul (one c) n) = List.replicate n.toNat c := PyProof.Rows.mul_one_list c n
theorem len_mul1 (c : Nat) (n : Int) : (Txt.mul (one c) n).length = n.toNat := by rw [len_zl, zl_mul1, List.length_replicate]
end Dn


/-! ## 30. Order that looks at the first difference alone -/
namespace Dn.Fd
open PySem PySem.SeqAt
open PySem.AutoSeq1 (wpAny_loadPart')
open PySem.MeetsSeq PySem.MeetsSeq2 PySem.MeetsSeq3
open PySem.SeqRoads2

/-- what is known of two rows: whether each pair is equal, and at the first pair that is not, how it compares -/
structure Pairs (A : Around) (s : Shared) (p q : Array Value) (eq lt : Nat → Bool) : Prop where
  same : ∀ k (kp : k < p.size) (kq : k < q.size), EqAt A s p[k] q[k] (eq k)
  less : ∀ k (kp : k < p.size) (kq : k < q.size), (∀ m, m < k → eq m = true) → eq k = false → RcLt A s p[k] q[k] (lt k)
/-- the answer from place k on -/
def ansAt (eq lt : Nat → Bool) (z : Bool) : Nat → Nat → Bool
  | _, 0 => z
  | k, left + 1 => if eq k = true then ansAt eq lt z (k + 1) left else lt k
theorem tupMeets (u v : Addr) (p q : Array Value) (c c2 : Nat) (e1 e2 : Option Addr) (o1 o2 : Array (Option Value)) (eq lt : Nat → Bool) :
    Meets (Builtin.«tuple.__lt__» ⟨[.ref u, .ref v], []⟩) (fun A R s =>
      s.heap.get? u = some ⟨.type "tuple", e1, .seq p c, o1⟩ ∧ s.heap.get? v = some ⟨.type "tuple", e2, .seq q c2, o2⟩ ∧ Pairs A.in1 s p q eq lt ∧
      R (.ok (.ret (.bool (ansAt eq lt (decide (p.size < q.size)) 0 (min p.size q.size))))) s) := .of_wp fun prog w A R s given => by
  obtain ⟨hp, g, d, tk, os⟩ := s
  obtain ⟨gu, gv, pr, fin⟩ := given
  have sub := AutoSeq1.sub_tuple_tuple
  have zl : (p.toList.zip q.toList).length = min p.size q.size := by simp
  wp_walk using wpAny_loadPart' gu, wpAny_loadPart' gv, wpAny_forIn_list _ (fun todo acc s' => acc.1 = none ∧ s' = ⟨hp, g, d, tk, os⟩ ∧ ∃ k, todo = (p.toList.zip q.toList).drop k ∧ (∀ m, m < k → eq m = true) ∧
    R (.ok (.ret (.bool (ansAt eq lt (decide (p.size < q.size)) k (min p.size q.size - k))))) ⟨hp, g, d, tk, os⟩) _
  case turn =>
    rintro ⟨a, b⟩ todo acc s' ⟨ha, rfl, k, hk, before, an⟩
    have kl : k < (p.toList.zip q.toList).length := Nat.lt_of_not_le fun h => by rw [List.drop_of_length_le h] at hk; cases hk
    have km : k < min p.size q.size := zl ▸ kl
    have kp : k < p.size := by omega
    have kq : k < q.size := by omega
    rw [List.drop_eq_getElem_cons kl] at hk
    injection hk with hd tl
    obtain ⟨rfl, rfl⟩ : a = p[k] ∧ b = q[k] := by
      constructor
      · simpa using congrArg Prod.fst hd
      · simpa using congrArg Prod.snd hd
    rw [show min p.size q.size - k = (min p.size q.size - (k + 1)) + 1 by omega, ansAt] at an
    refine wpAny_bind (pr.same k kp kq prog w _ _ ?_)
    cases h : eq k with
    | true =>
      rw [h, if_pos rfl] at an
      have before2 : ∀ m, m < k + 1 → eq m = true := fun m hm => (Nat.lt_succ_iff_lt_or_eq.mp hm).elim (before m) fun e => e ▸ h
      wp_walk
      exact ⟨rfl, rfl, k + 1, tl, before2, an⟩
    | false =>
      rw [h, if_neg Bool.false_ne_true] at an
      have now := pr.less k kp kq before h prog w
      wp_walk using now
      exact ⟨_, rfl, by simpa using an⟩
  case fin =>
    rintro ⟨a, b⟩ s' ⟨ha, rfl, k, hk, before, an⟩
    simp only at ha
    subst ha
    have done : min p.size q.size - k = 0 := by
      have : ¬ k < (p.toList.zip q.toList).length := fun h => by rw [List.drop_eq_getElem_cons h] at hk; cases hk
      omega
    rw [done, ansAt] at an
    wp_walk
    exact ⟨_, rfl, by simpa [Builtin.Tuple.tupleCompareSizes] using an⟩
  case h => exact ⟨rfl, rfl, 0, rfl, fun m hm => absurd hm (Nat.not_lt_zero _), by simpa using fin⟩
theorem loopMeets (u v : Addr) (p q : Array Value) (c c2 : Nat) (e1 e2 : Option Addr) (o1 o2 : Array (Option Value)) (eq lt : Nat → Bool) : ∀ left k : Nat, min p.size q.size - k = left → (∀ m, m < k → eq m = true) →
    Meets (Builtin.«list.__eq__.loop» ⟨[.ref u, .ref v, rawInt k, rawInt 0], []⟩) (fun A R s =>
      s.heap.get? u = some ⟨.type "list", e1, .seq p c, o1⟩ ∧ s.heap.get? v = some ⟨.type "list", e2, .seq q c2, o2⟩ ∧ Pairs A.in1 s p q eq lt ∧
      R (.ok (.ret (.bool (ansAt eq lt (decide (p.size < q.size)) k left)))) s)
  | 0, k, hk, before => fun prog w A R s given => by
    obtain ⟨hp, g, d, tk, os⟩ := s
    obtain ⟨gu, gv, pr, fin⟩ := given
    rw [ansAt] at fin
    wp_walk using wpAny_loadPart' gu, wpAny_loadPart' gv
    by_cases hs : p.size ≤ k
    · have n1 : p[((k : Nat) : Int).toNat]? = none := by simp; omega
      rw [n1]
      wp_walk using wpAny_loadPart' gu, wpAny_loadPart' gv
      exact fin
    · have kp : k < p.size := by omega
      have n1 : p[((k : Nat) : Int).toNat]? = some p[k] := by simp [kp]
      have n2 : q[((k : Nat) : Int).toNat]? = none := by simp; omega
      rw [n1, n2]
      wp_walk using wpAny_loadPart' gu, wpAny_loadPart' gv
      exact fin
  | left + 1, k, hk, before => fun prog w A R s given => by
    have ih := loopMeets u v p q c c2 e1 e2 o1 o2 eq lt left (k + 1) (by omega)
    obtain ⟨hp, g, d, tk, os⟩ := s
    obtain ⟨gu, gv, pr, fin⟩ := given
    rw [ansAt] at fin
    wp_walk using wpAny_loadPart' gu, wpAny_loadPart' gv
    have kp : k < p.size := by omega
    have kq : k < q.size := by omega
    have n1 : p[((k : Nat) : Int).toNat]? = some p[k] := by simp [kp]
    have n2 : q[((k : Nat) : Int).toNat]? = some q[k] := by simp [kq]
    have up : ((k : Int) + 1) = ((k + 1 : Nat) : Int) := by push_cast; rfl
    rw [n1, n2]
    refine wpAny_bind (pr.same k kp kq prog w _ _ ?_)
    cases h : eq k with
    | true =>
      rw [h, if_pos rfl] at fin
      have before2 : ∀ m, m < k + 1 → eq m = true := fun m hm => (Nat.lt_succ_iff_lt_or_eq.mp hm).elim (before m) fun e => e ▸ h
      wp_walk
      rw [up]
      refine ⟨plainId_quiet plain_eq_loop _, codeAny_builtin entry_eq_loop ?_⟩
      rw [Around.under_plainId plain_eq_loop _]
      exact ih before2 prog w A R _ ⟨gu, gv, pr, fin⟩
    | false =>
      rw [h, if_neg Bool.false_ne_true] at fin
      wp_walk using wpAny_loadPart' gu, wpAny_loadPart' gv
      rw [n1, n2]
      have now := pr.less k kp kq before h prog w
      wp_walk using now
      exact fin
theorem lstMeets (u v : Addr) (p q : Array Value) (c c2 : Nat) (e1 e2 : Option Addr) (o1 o2 : Array (Option Value)) (eq lt : Nat → Bool) :
    Meets (Builtin.«list.__lt__» ⟨[.ref u, .ref v], []⟩) (fun A R s =>
      s.heap.get? u = some ⟨.type "list", e1, .seq p c, o1⟩ ∧ s.heap.get? v = some ⟨.type "list", e2, .seq q c2, o2⟩ ∧ Pairs A.in1 s p q eq lt ∧
      R (.ok (.ret (.bool (ansAt eq lt (decide (p.size < q.size)) 0 (min p.size q.size))))) s) := fun prog w A R s given => by
  obtain ⟨hp, g, d, tk, os⟩ := s
  obtain ⟨gu, gv, pr, fin⟩ := given
  have sub := AutoSeq1.sub_list_list
  wp_walk using wpAny_loadPart' gu, wpAny_loadPart' gv
  refine ⟨plainId_quiet plain_eq_loop _, codeAny_builtin entry_eq_loop ?_⟩
  rw [Around.under_plainId plain_eq_loop _]
  exact loopMeets u v p q c c2 e1 e2 o1 o2 eq lt _ 0 rfl (fun m hm => absurd hm (Nat.not_lt_zero _)) prog w A R _ ⟨gu, gv, pr, by simpa using fin⟩
section
variable {A : Around} {s : Shared} {u v : Addr} {p q : Array Value} {eq lt : Nat → Bool}
theorem tupLt (hu : s.heap.IsTuple u p) (hv : s.heap.IsTuple v q) (room : A.units < cLine) (pr : Pairs A.in1 s p q eq lt) : RcLt A s (.ref u) (.ref v) (ansAt eq lt (decide (p.size < q.size)) 0 (min p.size q.size)) := fun prog w E Q h => by
  obtain ⟨⟨k1, e1, d1, o1⟩, g1, t1, c1, s1⟩ := id hu
  obtain ⟨⟨k2, e2, d2, o2⟩, g2, t2, c2, s2⟩ := id hv
  simp only at t1 s1 t2 s2
  subst t1 s1 t2 s2
  refine richCompare_meets_room (op := .Lt) ⟨_, g1, rfl⟩ ⟨_, g2, rfl⟩ F.slot_tuple_lt F.entry_tuple_lt (F.args_tuple_lt_2 _ _) (tupMeets u v p q c1 c2 e1 e2 o1 o2 eq lt) ⟨g1, g2, pr, ?_⟩ room
  exact (show Value.bool _ ≠ Value.notImplemented ∧ _ from ⟨(fun x => nomatch x), h⟩)
theorem lstLt (hu : s.heap.IsList u p) (hv : s.heap.IsList v q) (room : A.units < cLine) (pr : Pairs A.in1 s p q eq lt) : RcLt A s (.ref u) (.ref v) (ansAt eq lt (decide (p.size < q.size)) 0 (min p.size q.size)) := fun prog w E Q h => by
  obtain ⟨⟨k1, e1, d1, o1⟩, g1, t1, c1, s1⟩ := id hu
  obtain ⟨⟨k2, e2, d2, o2⟩, g2, t2, c2, s2⟩ := id hv
  simp only at t1 s1 t2 s2
  subst t1 s1 t2 s2
  refine richCompare_meets_room (op := .Lt) ⟨_, g1, rfl⟩ ⟨_, g2, rfl⟩ F.slot_list_lt F.entry_list_lt (F.args_list_lt_2 _ _) (lstMeets u v p q c1 c2 e1 e2 o1 o2 eq lt) ⟨g1, g2, pr, ?_⟩ room
  exact (show Value.bool _ ≠ Value.notImplemented ∧ _ from ⟨(fun x => nomatch x), h⟩)
end
end Dn.Fd

namespace Dn
open PySem L2
open Evl (Ex)
open PySem.SeqAt
/-! the order of data, by the first difference -/
mutual
/-- x < y, at the first difference -/
def ltD : PyData → PyData → Bool
  | .int x, .int y => decide (x < y)
  | .str x, .str y => decide (x.cps.toList < y.cps.toList)
  | .bool x, .bool y => W.dataLt (.bool x) (.bool y)
  | .list xs, .list ys => ltDs xs ys
  | .tuple xs, .tuple ys => ltDs xs ys
  | _, _ => false
def ltDs : List PyData → List PyData → Bool
  | [], [] => false
  | [], _ :: _ => true
  | _ :: _, [] => false
  | x :: xs, y :: ys => if PyData.eqv x y = true then ltDs xs ys else ltD x y
end
mutual
/-- the first difference is one that < can tell -/
def cmpD : PyData → PyData → Bool
  | .int _, .int _ => true
  | .str _, .str _ => true
  | .bool _, .bool _ => true
  | .list xs, .list ys => cmpDs xs ys
  | .tuple xs, .tuple ys => cmpDs xs ys
  | _, _ => false
def cmpDs : List PyData → List PyData → Bool
  | x :: xs, y :: ys => if PyData.eqv x y = true then cmpDs xs ys else cmpD x y
  | _, _ => true
end
theorem ansAt_shift (eq lt : Nat → Bool) (z : Bool) : ∀ left k, Fd.ansAt eq lt z (k + 1) left = Fd.ansAt (fun i => eq (i + 1)) (fun i => lt (i + 1)) z k left
  | 0, k => rfl
  | left + 1, k => by
    rw [Fd.ansAt, Fd.ansAt, ansAt_shift eq lt z left (k + 1)]
theorem ansAt_ltDs : ∀ xs ys : List PyData, Fd.ansAt (fun j => PyData.eqv (xs.getD j .none) (ys.getD j .none)) (fun j => ltD (xs.getD j .none) (ys.getD j .none)) (decide (xs.length < ys.length)) 0 (min xs.length ys.length) = ltDs xs ys
  | [], [] => by simp [Fd.ansAt, ltDs]
  | [], y :: ys => by simp [Fd.ansAt, ltDs]
  | x :: xs, [] => by simp [Fd.ansAt, ltDs]
  | x :: xs, y :: ys => by
    have ih := ansAt_ltDs xs ys
    rw [show min (x :: xs).length (y :: ys).length = min xs.length ys.length + 1 by rw [List.length_cons, List.length_cons]; omega, Fd.ansAt, ansAt_shift]
    rw [ltDs]
    show (if PyData.eqv x y = true then _ else ltD x y) = _
    have e : decide ((x :: xs).length < (y :: ys).length) = decide (xs.length < ys.length) := by simp
    rw [e]
    by_cases h : PyData.eqv x y = true
    · rw [if_pos h, if_pos h, ← ih]; rfl
    · rw [if_neg h, if_neg h]
theorem cmpDs_cons {x y : PyData} {xs ys : List PyData} (h : cmpDs (x :: xs) (y :: ys) = true) : (PyData.eqv x y = true → cmpDs xs ys = true) ∧ (PyData.eqv x y = false → cmpD x y = true) := by
  rw [cmpDs] at h
  refine ⟨fun e => by rwa [if_pos e] at h, fun e => by rwa [e, if_neg Bool.false_ne_true] at h⟩
theorem len_of_reads {h : Heap} {vs : Array Value} {xs : List PyData} {as : List Addr} (r : ReadsAll h vs.toList xs as) : vs.size = xs.length := by
  have := ReadsAll.length _ _ _ r
  simpa using this
mutual
theorem rcLtD : ∀ (d e : PyData) (A : Around) (s : Shared) (a b : Value) (as bs : List Addr), Reads s.heap a d as → Reads s.heap b e bs → d.canLay0 = true → e.canLay0 = true → cmpD d e = true → A.units + min d.depth e.depth < cLine → RcLt A s a b (ltD d e)
  | .int x, e, A, s, a, b, as, bs, ra, rb, _, _, hc, room => by
    cases e with
    | int y =>
      have := W.rcLt_alike (.int x) (.int y) A s a b as bs ra rb (by simp [W.alike]) (fun z => nomatch z) room
      rw [W.dataLt_int] at this
      rw [ltD]; exact this
    | _ => exact absurd hc (by simp [cmpD])
  | .str x, e, A, s, a, b, as, bs, ra, rb, _, _, hc, room => by
    cases e with
    | str y =>
      have := W.rcLt_alike (.str x) (.str y) A s a b as bs ra rb (by simp [W.alike]) (fun z => nomatch z) room
      rw [W.dataLt_str] at this
      rw [ltD]; exact this
    | _ => exact absurd hc (by simp [cmpD])
  | .bool x, e, A, s, a, b, as, bs, ra, rb, _, _, hc, room => by
    cases e with
    | bool y =>
      have := W.rcLt_alike (.bool x) (.bool y) A s a b as bs ra rb (by simp [W.alike]) (fun z => nomatch z) room
      rw [ltD]; exact this
    | _ => exact absurd hc (by simp [cmpD])
  | .none, e, _, _, _, _, _, _, _, _, _, _, hc, _ => absurd hc (by cases e <;> simp [cmpD])
  | .dict _, e, _, _, _, _, _, _, _, _, _, _, hc, _ => absurd hc (by cases e <;> simp [cmpD])
  | .list xs, e, A, s, a, b, as, bs, ra, rb, la, lb, hc, room => by
    cases e with
    | list ys =>
      rw [PyData.canLay0] at la lb
      rw [cmpD] at hc
      cases ra with
      | @list u o p c _ as1 g1 g2 g3 g4 =>
        cases rb with
        | @list v o' q c' _ bs1 f1 f2 f3 f4 =>
          have n1 := len_of_reads g4
          have n2 := len_of_reads f4
          have big := Fd.lstLt (s := s) ⟨_, g1, g2, _, g3⟩ ⟨_, f1, f2, _, f3⟩ (room_here room) (eq := pairEq xs ys) (lt := fun j => ltD (xs.getD j .none) (ys.getD j .none)) ⟨fun k kp kq => by
            have := eqAt_readsAll xs ys A.in1 s p.toList q.toList _ _ g4 f4 la lb (room_in room) k (by simpa using kp) (by simpa using kq)
            simpa using this, fun k kp kq bef no => by
            have := rcLtDs xs ys A.in1 s p.toList q.toList _ _ g4 f4 la lb hc (room_in room) k (by simpa using kp) (by simpa using kq) bef no
            simpa using this⟩
          rw [n1, n2] at big
          have ans := ansAt_ltDs xs ys
          rw [ltD, ← ans]
          exact big
    | _ => exact absurd hc (by simp [cmpD])
  | .tuple xs, e, A, s, a, b, as, bs, ra, rb, la, lb, hc, room => by
    cases e with
    | tuple ys =>
      rw [PyData.canLay0] at la lb
      rw [cmpD] at hc
      cases ra with
      | @tuple u o p c _ as1 g1 g2 g3 g4 =>
        cases rb with
        | @tuple v o' q c' _ bs1 f1 f2 f3 f4 =>
          have n1 := len_of_reads g4
          have n2 := len_of_reads f4
          have big := Fd.tupLt (s := s) ⟨_, g1, g2, _, g3⟩ ⟨_, f1, f2, _, f3⟩ (room_here room) (eq := pairEq xs ys) (lt := fun j => ltD (xs.getD j .none) (ys.getD j .none)) ⟨fun k kp kq => by
            have := eqAt_readsAll xs ys A.in1 s p.toList q.toList _ _ g4 f4 la lb (room_in room) k (by simpa using kp) (by simpa using kq)
            simpa using this, fun k kp kq bef no => by
            have := rcLtDs xs ys A.in1 s p.toList q.toList _ _ g4 f4 la lb hc (room_in room) k (by simpa using kp) (by simpa using kq) bef no
            simpa using this⟩
          rw [n1, n2] at big
          have ans := ansAt_ltDs xs ys
          rw [ltD, ← ans]
          exact big
    | _ => exact absurd hc (by simp [cmpD])
theorem rcLtDs : ∀ (xs ys : List PyData) (A : Around) (s : Shared) (vs ws : List Value) (as bs : List Addr), ReadsAll s.heap vs xs as → ReadsAll s.heap ws ys bs → PyData.canLayAll0 xs = true → PyData.canLayAll0 ys = true → cmpDs xs ys = true → A.units + min (PyData.depthAll xs) (PyData.depthAll ys) < cLine →
    ∀ k (kp : k < vs.length) (kq : k < ws.length), (∀ m, m < k → pairEq xs ys m = true) → pairEq xs ys k = false → RcLt A s vs[k] ws[k] (ltD (xs.getD k .none) (ys.getD k .none))
  | [], _, _, _, _, _, _, _, ra, _, _, _, _, _, _, kp, _, _, _ => by cases ra; exact absurd kp (Nat.not_lt_zero _)
  | _ :: _, [], _, _, _, _, _, _, _, rb, _, _, _, _, _, _, kq, _, _ => by cases rb; exact absurd kq (Nat.not_lt_zero _)
  | x :: xs, y :: ys, A, s, _, _, _, _, ra, rb, la, lb, hc, room, k, kp, kq, bef, no => by
    rw [PyData.canLayAll0, Bool.and_eq_true] at la lb
    have cc := cmpDs_cons hc
    cases ra with
    | cons r rs =>
      cases rb with
      | cons r' rs' =>
        cases k with
        | zero => exact rcLtD x y A s _ _ _ _ r r' la.1 lb.1 (cc.2 no) (room_head room)
        | succ k => exact rcLtDs xs ys A s _ _ _ _ rs rs' la.2 lb.2 (cc.1 (bef 0 (Nat.succ_pos k))) (room_tail room) k (Nat.lt_of_succ_lt_succ kp) (Nat.lt_of_succ_lt_succ kq) (fun m hm => bef (m + 1) (Nat.succ_lt_succ hm)) no
end
end Dn

namespace Dn
open PySem L2
open Evl (Ex)

/-! ## 31. < of tuples and of lists, by the first difference -/
def ltOk (a b : D) : Bool := shp a && shp b && cmpD a.py b.py
def gLtX : List D → Option O
  | [.tup a, .tup b] => if ltOk (.tup a) (.tup b) = true then some (bO (ltD (D.tup a).py (D.tup b).py)) else none
  | [.lst a, .lst b] => if ltOk (.lst a) (.lst b) = true then some (bO (ltD (D.lst a).py (D.lst b).py)) else none
  | l => gLt l
def rFst (K : PySem.W.Frag) : R2 := fun x y H Q => ∃ d e, Dp K H x d ∧ Dp K H y e ∧ SeqAt.shaped d = true ∧ SeqAt.shaped e = true ∧ cmpD d e = true ∧ Q (.bl (ltD d e)) H
section
variable {X : Cx}
theorem o_fst (hu : X.A.units + 64 < cLine) : OpR X (compareOp .Lt) (rFst X.K) := by
  intro pins s σ H x y v u Q I rx ry h
  obtain ⟨d, e, hd, he, sd, se, hc, q⟩ := h
  obtain ⟨as, r1⟩ := Dp.reads I d x v hd rx
  obtain ⟨bs, r2⟩ := Dp.reads I e y u he ry
  exact rcLtD d e _ _ v u as bs r1 r2 (SeqAt.canLay_of_shaped sd) (SeqAt.canLay_of_shaped se) hc (SeqAt.room_of_shaped sd hu) _ _ _ _ ⟨.bl _, H, I, rfl, q⟩
def rLtX (K : PySem.W.Frag) : R2 := fun x y H Q => rFst K x y H Q ∨ rLtO K x y H Q
theorem o_ltX (hu : X.A.units + 64 < cLine) : OpR X (compareOp .Lt) (rLtX X.K) := (o_fst hu).or (o_lt hu)
theorem lt_of {a b : D} (h : ltOk a b = true) : shp a = true ∧ shp b = true ∧ cmpD a.py b.py = true := by
  unfold ltOk at h
  rw [Bool.and_eq_true, Bool.and_eq_true] at h
  exact ⟨h.1.1, h.1.2, h.2⟩
theorem n_ltX {K : PySem.W.Frag} : Snd2 K (rLtX K) gLtX := fun B H x y a b o hx ha hb hg Q q => by
  unfold gLtX at hg
  split at hg
  · rename_i h; cases h
    split at hg
    · rename_i hs
      cases hg
      obtain ⟨h1, h2, h3⟩ := lt_of hs
      exact .inl ⟨_, _, ha.dp hx (shp_nx h1), hb.dp hx (shp_nx h2), h1, h2, h3, q.fr hx (.bl _)⟩
    · cases hg
  · rename_i h; cases h
    split at hg
    · rename_i hs
      cases hg
      obtain ⟨h1, h2, h3⟩ := lt_of hs
      exact .inl ⟨_, _, ha.dp hx (shp_nx h1), hb.dp hx (shp_nx h2), h1, h2, h3, q.fr hx (.bl _)⟩
    · cases hg
  · exact .inr (n_lt B H x y a b o hx ha hb hg Q q)
end
section
variable {i j : Int} {a b : Str} {ds es : List D}
theorem gLtX_i : gLtX [.int i, .int j] = some (bO (decide (i < j))) := nr rfl
theorem gLtX_z : gLtX [.str a, .str b] = some (bO (decide (zl a < zl b))) := gLt_z
theorem gLtX_t (h : ltOk (.tup ds) (.tup es) = true) : gLtX [.tup ds, .tup es] = some (bO (ltD (D.tup ds).py (D.tup es).py)) := if_pos h
theorem gLtX_l (h : ltOk (.lst ds) (.lst es) = true) : gLtX [.lst ds, .lst es] = some (bO (ltD (D.lst ds).py (D.lst es).py)) := if_pos h
end
theorem cutD_map {α β : Type} (f : α → β) (xs : List α) (lo hi : Option Int) : cutD (xs.map f) lo hi = (cutD xs lo hi).map f := by
  unfold cutD; rw [List.length_map, List.map_take, List.map_drop]
theorem cutD_mem {α : Type} {xs : List α} {lo hi : Option Int} {x : α} (h : x ∈ cutD xs lo hi) : x ∈ xs := by
  unfold cutD at h; exact List.mem_of_mem_drop (List.mem_of_mem_take h)
theorem cutD_len_hi {α : Type} (xs : List α) {m : Int} (h : 0 ≤ m) : (cutD xs none (some m)).length ≤ m.toNat := by
  unfold cutD
  rw [HT.sIx_none, Nat.sub_zero, List.drop_zero, List.length_take, ← Int.toNat_of_nonneg h, HT.sIx_nat]
  omega
theorem cutS_mem {z : Str} {lo hi : Option Int} {c : Nat} (h : c ∈ zl (cutS z lo hi)) : c ∈ zl z := by
  unfold cutS at h; exact List.mem_of_mem_drop (List.mem_of_mem_take h)
end Dn

namespace Dn
open PySem L2
open Evl (Ex)

/-! ## 32. list(x), of a text too -/
def rLstS : List V → Hp → VK → Prop := fun xs H Q => ∃ z : Str, xs = [.str z] ∧ z.length ≤ sizeLine ∧ ∀ l, H l = none → Q (.ref l) (upd H l (.lst ((zl z).map fun c => V.str (one c))))
theorem valsAt : ∀ (xs : List V) (us : List Value), us.length = xs.length → (∀ (j : Nat) (u : Value), us[j]? = some u → ∃ x, xs[j]? = some x ∧ RelV x u) → Vals xs us
  | [], [], _, _ => .nil
  | [], _ :: _, h, _ => by cases h
  | _ :: _, [], h, _ => by cases h
  | x :: xs, u :: us, h, k => by
    obtain ⟨y, hy, r⟩ := k 0 u rfl
    cases hy
    exact .cons r (valsAt xs us (Nat.succ.inj h) fun j v hv => k (j + 1) v hv)
theorem cr_listS {X : Cx} (hc : X.calm = true) : CallR X (.type "list") rLstS := by
  intro pins s σ H xs us Q I r h
  obtain ⟨z, rfl, hz, q⟩ := h
  obtain ⟨u, rfl, t, rfl⟩ := vals1 r
  refine call_list_str (I.ok.hd hc) z t (hn := hz) fun h' tk acc c' hk e hi => ?_
  refine ⟨.ref s.heap.objs.size, upd H s.heap.objs.size (.lst ((zl z).map fun c => V.str (one c))), I.laid hk (Nat.le_refl _) ⟨by rw [List.length_map]; exact hz, acc.toList, c', ?_, by rw [Array.toArray_toList]; exact e⟩, rfl, q _ (I.hok.fresh (Nat.le_refl _))⟩
  refine valsAt _ _ (by rw [List.length_map, Array.length_toList]; exact hi.1) fun j u hj => ?_
  obtain ⟨c, t', hc', rfl⟩ := hi.2 j u (by rw [← Array.getElem?_toList]; exact hj)
  exact ⟨.str (one c), by simp [hc'], ⟨_, rfl⟩⟩
def gListX : List D → Option O
  | [.str z] => if z.length ≤ sizeLine then some (.lst (signs z)) else none
  | l => gList l
def rListX (K : PySem.W.Frag) : List V → Hp → VK → Prop := fun xs H Q => rLstS xs H Q ∨ (∃ p ys, xs = [.ref p] ∧ (SqL K H p ys ∨ SqT K H p ys) ∧ ∀ l, H l = none → Q (.ref l) (upd H l (.lst ys)))
theorem cr_listX {X : Cx} (hc : X.calm = true) : CallR X (.type "list") (rListX X.K) := (cr_listS hc).or call_list_of
theorem n_listX {K : PySem.W.Frag} : SndN K (rListX K) gListX := fun B H vs ds o hx hr hg Q q => by
  unfold gListX at hg
  split at hg
  · split at hg
    · rename_i hl
      cases hg
      obtain ⟨v, rfl, h⟩ := hr.one
      cases h
      refine .inl ⟨_, rfl, hl, fun l hn => q.newL hx ?_ hn⟩
      rename_i z
      show RepL K B ((zl z).map fun c => V.str (one c)) ((zl z).map fun c => D.str (one c))
      induction zl z with
      | nil => exact .nil
      | cons c cs ih => exact .cons (.str _) ih
    · cases hg
  · exact .inr (n_list B H vs ds o hx hr hg Q q)
theorem gListX_z {z : Str} (h : z.length ≤ sizeLine) : gListX [.str z] = some (.lst (signs z)) := if_pos h
theorem gListX_l {ds : List D} : gListX [.lst ds] = some (.lst ds) := nr rfl
theorem gListX_t {ds : List D} : gListX [.tup ds] = some (.lst ds) := nr rfl
theorem gListX_s {ns : List Int} : gListX [.scr ns] = some (.lst (ns.map .int)) := nr rfl
end Dn

namespace Dn
open PySem L2

/-! ## 33. Ways apart; what is drawn -/
section
variable {α β γ : Type}
theorem Ev_ite {c : Prop} [Decidable c] {a b : Option (Ro α)} {Q : PostE α} {X : PostE Exn} (h1 : c → @EvC _ a Q X) (h2 : ¬ c → @EvC _ b Q X) : @EvC _ (if c then a else b) Q X := by
  by_cases h : c
  · rw [if_pos h]; exact h1 h
  · rw [if_neg h]; exact h2 h
theorem skol2 {P : α → β → γ → Prop} (h : ∀ x, ∃ a b, P x a b) : ∃ (f : α → β) (g : α → γ), ∀ x, P x (f x) (g x) :=
  ⟨fun x => (h x).choose, fun x => (h x).choose_spec.choose, fun x => (h x).choose_spec.choose_spec⟩
theorem skol1 {P : α → β → Prop} (h : ∀ x, ∃ a, P x a) : ∃ (f : α → β), ∀ x, P x (f x) :=
  ⟨fun x => (h x).choose, fun x => (h x).choose_spec⟩
end
theorem ex_map {α β : Type} {P : α → Prop} {f : α → β} : ∀ {xs : List β}, (∀ x ∈ xs, ∃ r, x = f r ∧ P r) → ∃ rl : List α, xs = rl.map f ∧ ∀ r ∈ rl, P r
  | [], _ => ⟨[], rfl, fun r h => (List.not_mem_nil h).elim⟩
  | x :: xs, h => by
    obtain ⟨r, rfl, hr⟩ := h x List.mem_cons_self
    obtain ⟨rl, rfl, hrl⟩ := ex_map (f := f) (P := P) fun y hy => h y (List.mem_cons_of_mem _ hy)
    exact ⟨r :: rl, rfl, fun s hs => (List.mem_cons.mp hs).elim (fun e => e ▸ hr) (hrl s)⟩
/-- what is wished, kept as an instance, so that simp leaves it as it stands -/
class PP (α : Type) where
  run : α → Prop
class PP2 (α β : Type) where
  run : α → β → Prop
def hb {α : Type} [P : PP α] (a : α) : Prop := P.run a
def hq {α β : Type} [P : PP2 α β] (a : α) (b : β) : Prop := P.run a b
theorem hbi {α : Type} {P : PP α} {a : α} (h : P.run a) : @hb α P a := h
theorem hqi {α β : Type} {P : PP2 α β} {a : α} {b : β} (h : P.run a b) : @hq α β P a b := h
/-- a comprehension that draws -/
theorem lc_draw {own : List Nat} {tg : Tg} {f : M O} {St : Type} (E : St → Sl) (P : D → Prop) (ds : List D) (hs : ∀ d ∈ ds, ∀ s : St, ∃ e1, tg.go d (E s) = some e1 ∧ Ev (f e1) (fun o e3 => P o.d ∧ ∃ s', wipeE e3 own = E s') (fun _ _ => False)) (hl : ds.length < 10000000) (s : St) :
    ∃ xs s', lcL own tg cYes f ds [] (E s) = some (xs, E s') ∧ xs.length = ds.length ∧ ∀ x ∈ xs, P x := by
  obtain ⟨xs, e', h1, h2, h3, s', rfl⟩ := lcL_gen (own := own) (tg := tg) (t := cYes) (f := f) (fun _ e => ∃ s, e = E s) (fun _ _ x => P x) ds [] (E s) (by simpa using hl) ⟨s, rfl⟩ (by
    rintro i d e hd ⟨s, rfl⟩
    obtain ⟨e1, g1, g2⟩ := hs d (List.mem_of_getElem? hd) s
    obtain ⟨o, e3, g3, g4, s', g5⟩ := g2.get
    exact ⟨e1, e1, o, e3, g1, rfl, g3, g4, s', g5⟩)
  rw [List.nil_append] at h1
  refine ⟨xs, s', h1, h2, fun x hx => ?_⟩
  obtain ⟨i, hi⟩ := List.getElem?_of_mem hx
  have hlt : i < ds.length := by rw [← h2]; exact (List.getElem?_eq_some_iff.mp hi).1
  obtain ⟨y, hy, c⟩ := h3 i _ (List.getElem?_eq_getElem hlt)
  rw [hi] at hy
  cases hy
  exact c
/-! slices and places, by whole numbers from nought on -/
section
variable {α : Type} {xs : List α}
theorem cutD_lo (k : Nat) : cutD xs (some (k : Int)) none = xs.drop k := by
  unfold cutD
  rw [HT.sIx_none, HT.sIx_nat]
  by_cases h : k ≤ xs.length
  · rw [Nat.min_eq_left h, List.take_of_length_le (by rw [List.length_drop]; omega)]
  · rw [Nat.min_eq_right (by omega), List.drop_eq_nil_of_le (by omega), List.drop_eq_nil_of_le (by omega), List.take_nil]
theorem cutD_hi (k : Nat) : cutD xs none (some (k : Int)) = xs.take k := by
  unfold cutD
  rw [HT.sIx_none, HT.sIx_nat, List.drop_zero, Nat.sub_zero]
  by_cases h : k ≤ xs.length
  · rw [Nat.min_eq_left h]
  · rw [Nat.min_eq_right (by omega), List.take_of_length_le (by omega), List.take_of_length_le (by omega)]
theorem cutD_1 : cutD xs (some 1) none = xs.drop 1 := cutD_lo 1
theorem cutD_2 : cutD xs (some 2) none = xs.drop 2 := cutD_lo 2
theorem ixN_nat {n : Nat} {j : Int} (h0 : 0 ≤ j) (h1 : j < n) : ixN n j = some j.toNat := by unfold ixN; rw [if_pos h0, if_pos h1]
theorem atI_cn {i : Nat} : atI xs (i : Int) = xs[i]? := by
  by_cases h : i < xs.length
  · rw [atI_nat' (by omega) (by omega), Int.toNat_natCast]
  · rw [List.getElem?_eq_none (by omega)]
    unfold atI ixN
    rw [if_pos (by omega), if_neg (by omega)]; rfl
theorem atI_c0 {x : α} : atI (x :: xs) 0 = some x := atI_cn (i := 0)
theorem atI_c1 {x y : α} : atI (x :: y :: xs) 1 = some y := atI_cn (i := 1)
theorem atI_c2 {x y z : α} : atI (x :: y :: z :: xs) 2 = some z := atI_cn (i := 2)
theorem atI_c3 {x y z u : α} : atI (x :: y :: z :: u :: xs) 3 = some u := atI_cn (i := 3)
theorem atI_c4 {x y z u v : α} : atI (x :: y :: z :: u :: v :: xs) 4 = some v := atI_cn (i := 4)
theorem atI_c5 {x y z u v w : α} : atI (x :: y :: z :: u :: v :: w :: xs) 5 = some w := atI_cn (i := 5)
theorem eqv_iz {i : Int} {z : Str} : D.eqv (.int i) (.str z) = false := by simp [D.eqv, D.py, PyData.eqv]
theorem eqv_zi {i : Int} {z : Str} : D.eqv (.str z) (.int i) = false := by simp [D.eqv, D.py, PyData.eqv]
theorem gEq_iz {i : Int} {z : Str} (h : shp (.str z) = true) : gEq [.int i, .str z] = some (bO false) := by
  show (if (shp (.int i) && shp (.str z)) = true then some (bO (D.eqv (.int i) (.str z))) else none) = _
  rw [h, shp_i, eqv_iz]; rfl
theorem gEq_zi {i : Int} {z : Str} (h : shp (.str z) = true) : gEq [.str z, .int i] = some (bO false) := by
  show (if (shp (.str z) && shp (.int i)) = true then some (bO (D.eqv (.str z) (.int i))) else none) = _
  rw [h, shp_i, eqv_zi]; rfl
theorem gNe_iz {i : Int} {z : Str} (h : shp (.str z) = true) : gNe [.int i, .str z] = some (bO true) := by
  show (if (shp (.int i) && shp (.str z)) = true then some (bO (!D.eqv (.int i) (.str z))) else none) = _
  rw [h, shp_i, eqv_iz]; rfl
theorem gNe_zi {i : Int} {z : Str} (h : shp (.str z) = true) : gNe [.str z, .int i] = some (bO true) := by
  show (if (shp (.str z) && shp (.int i)) = true then some (bO (!D.eqv (.str z) (.int i))) else none) = _
  rw [h, shp_i, eqv_zi]; rfl
theorem shp_z {z : Str} (h : ∀ c ∈ zl z, c < 1114112) : shp (.str z) = true := (shp_str h).shp (by omega)
theorem truD_bl (b : Bool) : truD (.bl b) = some b := nr rfl
theorem truD_l (ds : List D) : truD (.lst ds) = some (!ds.isEmpty) := nr rfl
theorem truD_t (ds : List D) : truD (.tup ds) = some (!ds.isEmpty) := nr rfl
end
end Dn

namespace Dn
open PySem L2
open Evl (Ex)

/-! ## 34. max and min of two whole numbers -/
def gMax2 : List D → Option O
  | [.int i, .int j] => some (iO (if j > i then j else i))
  | _ => none
def gMin2 : List D → Option O
  | [.int i, .int j] => some (iO (if j < i then j else i))
  | _ => none
theorem RdL.two {K : PySem.W.Frag} {B H : Hp} {vs : List V} {d e : D} (h : RdL K B H vs [d, e]) : ∃ v w, vs = [v, w] ∧ Rd K B H v d ∧ Rd K B H w e := by
  cases h with
  | cons h1 h => cases h with
    | cons h2 h => cases h; exact ⟨_, _, rfl, h1, h2⟩
theorem n_max2 {K : PySem.W.Frag} : SndN K (fun xs H Q => ∃ i j, xs = [.int i, .int j] ∧ Q (.int (if j > i then j else i)) H) gMax2 := by
  intro B H vs ds o hx hr hg Q q
  unfold gMax2 at hg
  split at hg
  · obtain ⟨v, w, rfl, h1, h2⟩ := hr.two
    cases h1; cases h2
    injection hg with hg
    subst hg
    exact ⟨_, _, rfl, q.fr hx (.int _)⟩
  · cases hg
theorem n_min2 {K : PySem.W.Frag} : SndN K (fun xs H Q => ∃ i j, xs = [.int i, .int j] ∧ Q (.int (if j < i then j else i)) H) gMin2 := by
  intro B H vs ds o hx hr hg Q q
  unfold gMin2 at hg
  split at hg
  · obtain ⟨v, w, rfl, h1, h2⟩ := hr.two
    cases h1; cases h2
    injection hg with hg
    subst hg
    exact ⟨_, _, rfl, q.fr hx (.int _)⟩
  · cases hg
theorem gMax2_i {i j : Int} : gMax2 [.int i, .int j] = some (iO (if j > i then j else i)) := nr rfl
theorem gMin2_i {i j : Int} : gMin2 [.int i, .int j] = some (iO (if j < i then j else i)) := nr rfl
end Dn

namespace Dn
open PySem L2
open Evl (Ex)

/-! ## 35. A def that calls itself: by how deep it may go; a statement that is never reached -/
section
variable {P : Program} {w : World} {K : PySem.W.Frag} {mg : Str → Option Value} {base : Heap}
/-- as deep as nought: nothing is promised -/
theorem fn_none {k n : Nat} {f : Addr} {fd : FuncData} {ps : List Str} (hn : ps.length = n) : FnOk P w K mg base (L2.CX P w) k f fd ps (spD K mg n fun _ => none) :=
  ⟨fun vs H Q E h => h.1.trans hn.symm, fun A outer s H args us vs Q E _ _ _ _ h => by
    obtain ⟨_, B, os, S, _, z⟩ := h
    exact z.elim⟩
end
section
variable {X : Cx} {W : WX} {ks : List Nat} {st : Stmt}
theorem s_stuck : PS X st (tS X.K X.mg W ks M.stuck) := ⟨fun pins s σ H D I h => by
  obtain ⟨B, e, S, _, z⟩ := h
  exact z.elim⟩
end

/-! ## 36. str of a whole number, insert -/
def gStr1 : List D → Option O
  | [.int i] => if i.natAbs.log2 < 1920 then some (sO (toString i)) else none
  | _ => none
theorem n_str1 {K : PySem.W.Frag} : SndN K (fun xs H Q => ∃ i : Int, xs = [.int i] ∧ i.natAbs.log2 < 1920 ∧ Q (.str (toString i)) H) gStr1 := by
  intro B H vs ds o hx hr hg Q q
  unfold gStr1 at hg
  split at hg
  · split at hg
    · obtain ⟨v, rfl, h1⟩ := hr.one
      cases h1
      injection hg with hg
      subst hg
      exact ⟨_, rfl, by assumption, q.fr hx (.str _)⟩
    · cases hg
  · cases hg
/-- xs.insert(0, e) -/
def gIns0 (ds : List D) (d : D) : Option (D × List D) := if ds.length < sizeLine then some (.non, d :: ds) else none
def rIns0 : V → List V → Hp → VK → Prop := fun x vs H Q => ∃ (l : Addr) (xs : List V) (i : Int) (y : V), x = .ref l ∧ .int 0 :: vs = [.int i, y] ∧ H l = some (.lst xs) ∧ xs.length < sizeLine ∧ 0 ≤ i ∧ i < 2 ^ 63 ∧ Q .non (upd H l (.lst (xs.take i.toNat ++ [y] ++ xs.drop i.toNat)))
theorem u_ins0 {K : PySem.W.Frag} : Mu1 K rIns0 gIns0 := by
  intro B H l xs ds y d res ds' hx hl hr hd hg Q q
  unfold gIns0 at hg
  split at hg
  · rename_i hz
    cases hg
    refine ⟨l, xs, 0, y, rfl, rfl, hl, by rw [hr.length]; exact hz, by omega, by omega, q .non (y :: xs) (.cons hd hr) .non⟩
  · cases hg
theorem gIns0_q {ds : List D} {d : D} (h : ds.length < sizeLine) : gIns0 ds d = some (.non, d :: ds) := if_pos h
section
variable {X : Cx} {W : WX} {e : Expr} {f : M O} {i : Nat} {x : Str} {p apos pos p0 : Pos} {k0 : Nat}
theorem d_ins0 (hv : PE X (.Name x p) (tVar i)) (he : PE X e (tE X.K X.mg W f))
    (hbase : attributeBase (.Name x p) "insert" X.env (eval (.Name x p) X.env) = eval (.Name x p) X.env := by rfl)
    (hfew : ((backTo pos (starEach (.Constant (.int 0) k0 p0 :: [e]) X.env)).all (fun x => !x.1) && (backToKw pos (keywordEach [] X.env)).all (fun x => x.1.isSome)
      && decide ((.Constant (.int 0) k0 p0 :: [e]).length + ([] : List Keyword).length + (if ([] : List Keyword).isEmpty then 0 else 1) < 30)) = true := by rfl)
    (hline : (apos.endLine == pos.line) = true := by rfl) (hst : starEach (.Constant (.int 0) k0 p0 :: [e]) X.env = (false, eval (.Constant (.int 0) k0 p0) X.env) :: starEach [e] X.env := by rfl) (hst2 : starEach [e] X.env = (false, eval e X.env) :: starEach [] X.env := by rfl) (hpl : (backTo pos (starEach [e] X.env)).any (·.1) = false := by rfl) :
    PE X (.Call (.Attribute (.Name x p) "insert" apos) [.Constant (.int 0) k0 p0, e] [] pos) (tE X.K X.mg W (eMut1 gIns0 i f)) := pe_imp (pe_bm PySem.F.plainAttrs_list PySem.F.slot_list_insert PySem.F.type_list_insert mt_insert hv (pa_cons pe_int (pa_cons he pa_nil hst2) hst) hbase hfew hline hst hpl) fun σ H Q h => mut1_run u_ins0 h
end
/-! ## 37. A tuple of the module's, by its name -/
structure TupC (K : PySem.W.Frag) (mg : Str → Option Value) (x : Str) (ds : List D) : Prop where
  ex : ∃ (a : Addr) (o : Obj) (its : Array Value) (n : Nat) (vs : List V), mg x = some (.ref a) ∧ K.lookup a = some o ∧ o.cls = .type "tuple" ∧ o.data = .seq its n ∧ its.size ≤ sizeLine ∧ Vals vs its.toList ∧ vs.length ≤ 1 ∧ ∀ B, RepL K B vs ds
theorem d_gt {X : Cx} {W : WX} {x : Str} {pos : Pos} {ds : List D} (hg : Gl X x) (h : TupC X.K X.mg x ds) (hdb : (x == ("__debug__" : Str)) = false := by decide) : PE X (.Name x pos) (tE X.K X.mg W (eC (.tup ds))) := by
  obtain ⟨a, o, its, n, vs, h1, h2, h3, h4, h5, h6, h8, h7⟩ := h.ex
  exact d_c (v := .ref a) (pe_glob hg h1 rfl hdb) fun B => .tup (.inr ⟨h8, .inr ⟨o, its, n, h2, h3, h4, h5, h6⟩⟩) (h7 B)
theorem gStr1_i {i : Int} (h : i.natAbs.log2 < 1920) : gStr1 [.int i] = some (sO (toString i)) := if_pos h
/-! ## 38. A comprehension, by what is made so far -/
theorem lc_acc_go {own : List Nat} {tg : Tg} {f : M O} (I : List D → Sl → Prop) : ∀ (ds acc : List D) (e : Sl), acc.length + ds.length < 10000000 →
    (∀ d ∈ ds, ∀ acc' e, I acc' e → ∃ e1, tg.go d e = some e1 ∧ Ev (f e1) (fun o e3 => I (acc' ++ [o.d]) (wipeE e3 own)) (fun _ _ => False)) → I acc e →
    ∃ xs e', lcL own tg cYes f ds acc e = some (acc ++ xs, e') ∧ xs.length = ds.length ∧ I (acc ++ xs) e'
  | [], acc, e, _, _, h0 => ⟨[], e, by simp [lcL], rfl, by rw [List.append_nil]; exact h0⟩
  | d :: ds, acc, e, hl, hs, h0 => by
    obtain ⟨e1, h1, h2⟩ := hs d List.mem_cons_self acc e h0
    obtain ⟨o, e3, h3, h5⟩ := h2.get
    have hz : acc.length < sizeLine := by rw [sizeLine_eq]; rw [List.length_cons] at hl; omega
    obtain ⟨xs, e', q1, q2, q3⟩ := lc_acc_go I ds (acc ++ [o.d]) (wipeE e3 own) (by rw [List.length_append]; simp only [List.length_cons, List.length_nil] at *; omega) (fun d' h => hs d' (List.mem_cons_of_mem _ h)) h5
    refine ⟨o.d :: xs, e', ?_, by rw [List.length_cons, List.length_cons, q2], by rw [List.append_assoc] at q3; exact q3⟩
    have h2 : cYes e1 = some (.ok true e1) := rfl
    simp only [lcL, h1, h2, h3, hz, if_true, q1, List.append_assoc, List.singleton_append]
theorem lc_acc {own : List Nat} {tg : Tg} {f : M O} (I : List D → Sl → Prop) (ds : List D) (e : Sl) (hl : ds.length < 10000000)
    (hs : ∀ d ∈ ds, ∀ acc' e, I acc' e → ∃ e1, tg.go d e = some e1 ∧ Ev (f e1) (fun o e3 => I (acc' ++ [o.d]) (wipeE e3 own)) (fun _ _ => False)) (h0 : I [] e) :
    ∃ xs e', lcL own tg cYes f ds [] e = some (xs, e') ∧ xs.length = ds.length ∧ I xs e' := by
  obtain ⟨xs, e', h1, h2, h3⟩ := lc_acc_go I ds [] e (by simpa using hl) hs h0
  exact ⟨xs, e', h1, h2, h3⟩
theorem lc_map_go {α : Type} {own : List Nat} {tg : Tg} {C : M O} {e : Sl} (f g : α → D) : ∀ (xs : List α) (acc : List D), acc.length + xs.length < 10000000 →
    (∀ x ∈ xs, ∃ e1, tg.go (f x) e = some e1 ∧ Ev (C e1) (fun o e3 => o.d = g x ∧ wipeE e3 own = e) (fun _ _ => False)) → lcL own tg cYes C (xs.map f) acc e = some (acc ++ xs.map g, e)
  | [], acc, _, _ => by simp [lcL]
  | x :: xs, acc, hl, hs => by
    obtain ⟨e1, h1, h2⟩ := hs x List.mem_cons_self
    obtain ⟨o, e3, h3, h4, h5⟩ := h2.get
    have hz : acc.length < sizeLine := by rw [sizeLine_eq]; rw [List.length_cons] at hl; omega
    have ih := lc_map_go f g xs (acc ++ [o.d]) (by rw [List.length_append]; simp only [List.length_cons, List.length_nil] at *; omega) (fun y hy => hs y (List.mem_cons_of_mem _ hy))
    have hy : cYes e1 = some (.ok true e1) := rfl
    rw [h4] at ih
    simp only [List.map_cons, lcL, h1, hy, h3, hz, if_true, h5, h4, ih, List.append_assoc, List.singleton_append]
/-- a comprehension that makes something of each item, and leaves the slots as they were -/
theorem lc_map {α : Type} {own : List Nat} {tg : Tg} {C : M O} {e : Sl} (f g : α → D) (xs : List α) (hl : xs.length < 10000000)
    (hs : ∀ x ∈ xs, ∃ e1, tg.go (f x) e = some e1 ∧ Ev (C e1) (fun o e3 => o.d = g x ∧ wipeE e3 own = e) (fun _ _ => False)) : lcL own tg cYes C (xs.map f) [] e = some (xs.map g, e) := by
  have := lc_map_go f g xs [] (by simpa using hl) hs
  simpa using this
theorem lc_filt_go {α : Type} {own : List Nat} {tg : Tg} {t : M Bool} {C : M O} {e : Sl} (f g : α → D) (p : α → Bool) : ∀ (xs : List α) (acc : List D), acc.length + xs.length < 10000000 →
    (∀ x ∈ xs, ∃ e1, tg.go (f x) e = some e1 ∧ Ev (t e1) (fun b e2 => b = p x ∧ if p x = true then Ev (C e2) (fun o e3 => o.d = g x ∧ wipeE e3 own = e) fun _ _ => False else wipeE e2 own = e) fun _ _ => False) → lcL own tg t C (xs.map f) acc e = some (acc ++ (xs.filter p).map g, e)
  | [], acc, _, _ => by simp [lcL]
  | x :: xs, acc, hl, hs => by
    obtain ⟨e1, h1, h2⟩ := hs x List.mem_cons_self
    obtain ⟨b, e2, h3, rfl, h4⟩ := h2.get
    have hz : acc.length < sizeLine := by rw [sizeLine_eq]; rw [List.length_cons] at hl; omega
    have hs' := fun y hy => hs y (List.mem_cons_of_mem _ hy)
    rw [List.length_cons] at hl
    cases hp : p x with
    | true =>
      rw [hp, if_pos rfl] at h4
      obtain ⟨o, e3, h5, h6, h7⟩ := h4.get
      have ih := lc_filt_go f g p xs (acc ++ [o.d]) (by rw [List.length_append]; simp only [List.length_cons, List.length_nil] at *; omega) hs'
      rw [h6] at ih
      rw [hp] at h3
      simp only [List.map_cons, lcL, h1, h3, h5, hz, if_true, h7, h6, ih, List.filter_cons, hp, List.append_assoc, List.singleton_append]
    | false =>
      rw [hp, if_neg (by decide)] at h4
      have ih := lc_filt_go f g p xs acc (by omega) hs'
      rw [hp] at h3
      simp only [List.map_cons, lcL, h1, h3, h4, ih, List.filter_cons, hp, Bool.false_eq_true, if_false]
theorem lc_filt {α : Type} {own : List Nat} {tg : Tg} {t : M Bool} {C : M O} {e : Sl} (f g : α → D) (p : α → Bool) (xs : List α) (hl : xs.length < 10000000)
    (hs : ∀ x ∈ xs, ∃ e1, tg.go (f x) e = some e1 ∧ Ev (t e1) (fun b e2 => b = p x ∧ if p x = true then Ev (C e2) (fun o e3 => o.d = g x ∧ wipeE e3 own = e) fun _ _ => False else wipeE e2 own = e) fun _ _ => False) : lcL own tg t C (xs.map f) [] e = some ((xs.filter p).map g, e) := by
  have := lc_filt_go f g p xs [] (by simpa using hl) hs
  simpa using this
theorem gSum_ints (ns : List Int) : gSum [.lst (ns.map .int)] = some (iO ns.sum) := by
  show (intsD (ns.map D.int)).map _ = _
  rw [intsD_int]; rfl
end Dn

namespace Dn
open PySem L2

/-! ## 39. == of what is plain -/
open Classical in
theorem gNe_pl {x y : D} (hx : x.pl = true) (hy : y.pl = true) (sx : shp x = true) (sy : shp y = true) : gNe [x, y] = some (bO (!decide (x = y))) := by
  have key : gNe [x, y] = (if (shp x && shp y) = true then some (bO (!D.eqv x y)) else none) ∨ (∃ i j, x = .int i ∧ y = .int j) ∨ (∃ i j, x = .str i ∧ y = .str j) ∨ (∃ i j, x = .bl i ∧ y = .bl j) := by
    cases x <;> cases y <;> first | exact .inl rfl | exact .inr (.inl ⟨_, _, rfl, rfl⟩) | exact .inr (.inr (.inl ⟨_, _, rfl, rfl⟩)) | exact .inr (.inr (.inr ⟨_, _, rfl, rfl⟩))
  have e := D.eqv_same hx hy
  rcases key with h | ⟨i, j, rfl, rfl⟩ | ⟨i, j, rfl, rfl⟩ | ⟨i, j, rfl, rfl⟩
  · rw [h, sx, sy]
    show some (bO (!D.eqv x y)) = _
    by_cases z : x = y
    · rw [e.mpr z, decide_eq_true z]
    · rw [decide_eq_false z, Bool.eq_false_iff.mpr fun w => z (e.mp w)]
  · rw [gNe_i]; congr 3; exact decide_eq_decide.mpr ⟨fun h => by rw [h], fun h => by injection h⟩
  · rw [gNe_z]; congr 3; exact decide_eq_decide.mpr ⟨fun h => by rw [h], fun h => by injection h⟩
  · cases hx
open Classical in
theorem gEq_pl {x y : D} (hx : x.pl = true) (hy : y.pl = true) (sx : shp x = true) (sy : shp y = true) : gEq [x, y] = some (bO (decide (x = y))) := by
  have key : gEq [x, y] = (if (shp x && shp y) = true then some (bO (D.eqv x y)) else none) ∨ (∃ i j, x = .int i ∧ y = .int j) ∨ (∃ i j, x = .str i ∧ y = .str j) ∨ (∃ i j, x = .bl i ∧ y = .bl j) := by
    cases x <;> cases y <;> first | exact .inl rfl | exact .inr (.inl ⟨_, _, rfl, rfl⟩) | exact .inr (.inr (.inl ⟨_, _, rfl, rfl⟩)) | exact .inr (.inr (.inr ⟨_, _, rfl, rfl⟩))
  have e := D.eqv_same hx hy
  rcases key with h | ⟨i, j, rfl, rfl⟩ | ⟨i, j, rfl, rfl⟩ | ⟨i, j, rfl, rfl⟩
  · rw [h, sx, sy]
    show some (bO (D.eqv x y)) = _
    by_cases z : x = y
    · rw [e.mpr z, decide_eq_true z]
    · rw [decide_eq_false z, Bool.eq_false_iff.mpr fun w => z (e.mp w)]
  · rw [gEq_i]; congr 2; exact decide_eq_decide.mpr ⟨fun h => by rw [h], fun h => by injection h⟩
  · rw [gEq_z]; congr 2; exact decide_eq_decide.mpr ⟨fun h => by rw [h], fun h => by injection h⟩
  · cases hx
theorem gEq_same {x : D} (hx : x.pl = true) (sx : shp x = true) : gEq [x, x] = some (bO true) := by classical rw [gEq_pl hx hx sx sx, decide_eq_true rfl]
theorem gEq_diff {x y : D} (hx : x.pl = true) (hy : y.pl = true) (sx : shp x = true) (sy : shp y = true) (h : x ≠ y) : gEq [x, y] = some (bO false) := by classical rw [gEq_pl hx hy sx sy, decide_eq_false h]
theorem gNe_same {x : D} (hx : x.pl = true) (sx : shp x = true) : gNe [x, x] = some (bO false) := by classical rw [gNe_pl hx hx sx sx, decide_eq_true rfl]; rfl
theorem gNe_diff {x y : D} (hx : x.pl = true) (hy : y.pl = true) (sx : shp x = true) (sy : shp y = true) (h : x ≠ y) : gNe [x, y] = some (bO true) := by classical rw [gNe_pl hx hy sx sy, decide_eq_false h]; rfl
end Dn

namespace Dn
open PySem L2
open PyProof.Rows (envOfC)
open Evl (Ex)
open ClX

/-! ## 39. The errors of the program: how they are made -/
/-- C's instances carry word and place -/
structure ErC (K : PySem.W.Frag) (C : Addr) : Prop where
  T : OexC K C
  nW : PySem.W.findIn K (.ref C) "word" = some none
  nP : PySem.W.findIn K (.ref C) "place" = some none
/-- behind the first class's __init__ -/
def afterI (a C : Addr) (w y : V) (H : Hp) (Q : VK) : Prop := ∀ dx, H dx = none → dx ≠ a → Q .non (upd (upd (upd H dx (exd dx [("word", w)])) a (exo a C (some dx))) dx (exd dx [("place", y), ("word", w)]))
def spT (K : PySem.W.Frag) : Sp := fun vs H Q E => ∃ (a C : Addr) (w y : V), vs = [.ref a, w, y] ∧ ErC K C ∧ H a = some (exo a C none) ∧ afterI a C w y H Q
def spB (K : PySem.W.Frag) (x : Str) : Sp := fun vs H Q E => ∃ (a C : Addr) (y : V), vs = [.ref a, y] ∧ ErC K C ∧ H a = some (exo a C none) ∧ afterI a C (.str x) y H Q
theorem init_T {K : PySem.W.Frag} {a C : Addr} {w y : V} {H : Hp} {D : Ends} (e : ErC K C) (ha : H a = some (exo a C none)) (h : ∀ dx, H dx = none → dx ≠ a → D.nx [some (.ref a), some w, some y] (upd (upd (upd H dx (exd dx [("word", w)])) a (exo a C (some dx))) dx (exd dx [("place", y), ("word", w)]))) :
    tSeq (tOst K "word" (tVar 0) (tVar 1)) (tOst K "place" (tVar 0) (tVar 2)) D [some (.ref a), some w, some y] H := by
  refine ⟨w, rfl, .ref a, rfl, a, C, rfl, e.T, e.nW, .inl ⟨ha, fun dx hd hn => ?_⟩⟩
  refine ⟨y, rfl, .ref a, rfl, a, C, rfl, e.T, e.nP, .inr ⟨dx, [("word", w)], upd_same, ?_, Nat.le_of_ble_eq_true rfl, h dx hd hn⟩⟩
  rw [upd_ne hn, upd_same]
section
variable {P : Program} {w : World} {K : PySem.W.Frag} {mg : Str → Option Value} {base : Heap}
theorem ok_initT {qual : Str} {st : Stmt} {f : Addr} {fd : FuncData} {k : Nat} (F : FunX K "__init__" qual st f fd) (Sc : FnScope ["self", "word", "place"] ["self", "word", "place"] (defScope st))
    (hb : ∀ (cdv : Value) (A : Around) (outer : List PySem.Env) (s : Shared) (H : Hp) (E : XK), PSs (cxOf (L2.CX P w) P w K mg base ["self", "word", "place"] qual (defScope st) f cdv A outer s H E) (defBody st) (tSeq (tOst K "word" (tVar 0) (tVar 1)) (tOst K "place" (tVar 0) (tVar 2)))) :
    FnOk P w K mg base (L2.CX P w) (k + 1) f fd ["self", "word", "place"] (spT K) := by
  refine F.okX Sc (fun vs H Q E h => ?_) (fun cdv A outer s H vs Q E hr h => ⟨_, hb cdv A outer s H E, ?_⟩)
  · obtain ⟨a, C, w, y, rfl, _⟩ := h; rfl
  · obtain ⟨a, C, w, y, rfl, e, ha, q⟩ := h
    exact init_T e ha fun dx h1 h2 => q dx h1 h2
theorem ok_initB {qual x : Str} {st : Stmt} {f : Addr} {fd : FuncData} {k : Nat} (F : FunX K "__init__" qual st f fd) (Sc : FnScope ["self", "place"] ["self", "place"] (defScope st))
    (hb : ∀ (cdv : Value) (A : Around) (outer : List PySem.Env) (s : Shared) (H : Hp) (E : XK), Room k (A.deeper (envOfC qual (defScope st) s.heap.objs.size f cdv)) →
      PSs (cxOf (L2.CX P w) P w K mg base ["self", "place"] qual (defScope st) f cdv A outer s H E) (defBody st) (tDrop (tCall (spT K) [] (fun _ _ _ => False) (tCons (tVar 0) (tCons (tC (.str x)) (tCons (tVar 1) tNil)))))) :
    FnOk P w K mg base (L2.CX P w) (k + 1) f fd ["self", "place"] (spB K x) := by
  refine F.okX Sc (fun vs H Q E h => ?_) (fun cdv A outer s H vs Q E hr h => ⟨_, hb cdv A outer s H E hr, ?_⟩)
  · obtain ⟨a, C, y, rfl, _⟩ := h; rfl
  · obtain ⟨a, C, y, rfl, e, ha, q⟩ := h
    exact ⟨.ref a, rfl, y, rfl, a, C, .str x, y, rfl, e, ha, fun dx h1 h2 => q dx h1 h2⟩
end
/-- C.m(e, ..), m a def of the class -/
theorem pe_cfun {X : Cx} {CX : CXT} {k : Nat} {C f : Addr} {mc : Value} {fd : FuncData} {ps : List Str} {sp : Sp} {E : XK} {x m : Str} {p1 p2 pos : Pos} {e : Expr} {es : List Expr} {t : TA} {pl : Sem Bool}
    (F : FnOk X.prog X.w X.K X.mg X.base CX k f fd ps sp) (hr : Room k X.A) (hg : Gl X x) (hm : X.mg x = some (.ref C)) (r : CRead X.K C mc) (cf : PySem.W.findCls X.K (.ref C) mc m = some (.val (.ref f))) (hk : PySem.W.keepIn X.K (.ref f) = true) (hb : Binds X.K fd ps []) (hx : Passes CX X E) (ha : PA X (e :: es) t)
    (hdb : (x == ("__debug__" : Str)) = false := by decide)
    (hc : eval (.Call (.Attribute (.Name x p1) m p2) (e :: es) [] pos) X.env = (do
      let ov ← eval (.Name x p1) X.env
      standAt p2.atName
      let (f, first) ← holding [ov] (getMethod ov m pl)
      callWith pos f first (backTo pos (starEach (e :: es) X.env)) (backToKw pos (keywordEach [] X.env))) := by rfl)
    (he : starEach (e :: es) X.env = (false, eval e X.env) :: starEach es X.env := by rfl) (hpl : (backTo pos (starEach es X.env)).any (·.1) = false := by rfl) :
    PE X (.Call (.Attribute (.Name x p1) m p2) (e :: es) [] pos) (tCall sp [] E t) := by
  refine ⟨fun pins s σ H Q I h => ?_⟩
  refine PySem.W.methodCall_KW (pl := pl) (ld_glob I hg hm ?_ hdb) hc
  refine PySem.W.method_cls I.kIn r.ga (getcval_ok I r (v := .ref f) ⟨cf, rfl⟩ fun s2 I2 => ?_)
  show wpAny _ _ (callWith pos (Value.ref f) [] (backTo pos (starEach (e :: es) X.env)) []) _ _ _
  refine PySem.W.callWith_K (h₀ := X.base) I.ok.mod.kin hk (thn (ha.run pos pins s2 σ H _ I2 h) fun us s1 ⟨vs, H1, I1, r, q⟩ => ⟨I1.kIn, ?_⟩) he hpl
  exact run_fn F hr hb .nil hx I1 r q

/-- an error class of the program, by its name -/
structure Er (P : Program) (w : World) (K : PySem.W.Frag) (mg : Str → Option Value) (base : Heap) (k : Nat) (x : Str) : Prop where
  ex : ∃ (C fI : Addr) (fd : FuncData), ErC K C ∧ PySem.W.findIn K (.ref C) "__init__" = some (some (.ref fI)) ∧ PySem.W.typeIn K (.ref fI) = some (.type "function") ∧ mg x = some (.ref C) ∧
    FnOk P w K mg base (L2.CX P w) k fI fd ["self", "place"] (spB K x) ∧ Binds K fd ["self", "place"] [] ∧ ∃ ds, Vals [.non] ds ∧ Binds K fd ["self", "place"] ds
/-- what it carries -/
def xfs (x : Str) (d : D) : List (Str × D) := [("place", d), ("word", .str x)]
/-- raise x(e) -/
def sRaise (x : Str) (f : M O) : M Fl := (items [f]).bind fun ds e => some (.ex ⟨x, xfs x (ds.headD .non)⟩ e)
/-- raise x() -/
def sRaise0 (x : Str) : M Fl := fun e => some (.ex ⟨x, xfs x .non⟩ e)
section
variable {X : Cx} {W : WX} {ks : List Nat}
theorem raise_end {C a : Addr} {x : Str} {y : V} {d : D} {H H1 B B1 : Hp} {σ : St} {S S1 : Nat → Addr → Prop} {e' : Sl} (ec : ErC X.K C) (hC : X.mg x = some (.ref C)) (r : Rp X.K B1 H1 σ e' S1) (f : Fr B H (tot S) B1 H1 (tot S1)) (ry : Rep X.K B1 y d) (ha : H1 a = none)
    (h : ExS X.K X.mg W ks B H S σ ⟨x, xfs x d⟩ e') :
    afterI a C (.str x) y (upd H1 a (exo a C none)) fun v H2 => v = .non ∧ ∃ (d : Addr) (fs : List (Str × V)), H2 a = some (exo a C (some d)) ∧ H2 d = some (exd d fs) ∧ H1 d = none ∧ W (.ref C) (some d) σ (upd (del H2 a) d (.xd fs)) := by
  intro dx hd hn
  have hd1 : H1 dx = none := by rwa [upd_ne hn] at hd
  refine ⟨rfl, dx, _, by rw [upd_ne (Ne.symm hn), upd_same], upd_same, hd1, ?_⟩
  have he : ∀ o u1 u2 u3 u4 : HO, upd (del (upd (upd (upd (upd H1 a u1) dx u2) a u3) dx u4) a) dx o = upd H1 dx o := fun o u1 u2 u3 u4 => by
    funext b
    by_cases hb : b = dx
    · subst hb; rw [upd_same, upd_same]
    · rw [upd_ne hb, upd_ne hb]
      by_cases hba : b = a
      · subst hba; rw [del_same, ha]
      · rw [del_ne hba, upd_ne hb, upd_ne hba, upd_ne hb, upd_ne hba]
  rw [he]
  have g := Gr.own r.ex hd1 (.xd [("place", y), ("word", .str x)])
  exact h C dx _ σ B1 _ S1 hC (r.grow g) upd_same (.cons ⟨rfl, ry⟩ (.cons ⟨rfl, .str x⟩ .nil)) (f.back hd1) (Kp.refl _ _) (f.trans (g.fr _))
theorem s_raise {x : Str} {k j : Nat} {e : Expr} {f : M O} {p pos pos' : Pos} (E : Er X.prog X.w X.K X.mg X.base k x) (hr : Room j X.A) (tk : Takes X W) (he : PE X e (tE X.K X.mg W f)) (hk : k + 1 ≤ j := by decide) (hc : X.calm = true := by rfl) (hg : Gl X x := by rfl)
    (hdb : (x == ("__debug__" : Str)) = false := by decide) (hs : starEach [e] X.env = (false, eval e X.env) :: starEach [] X.env := by rfl) (hpl : (backTo pos (starEach [] X.env)).any (·.1) = false := by rfl) :
    PS X (.Raise (some (.Call (.Name x p) [e] [] pos)) none pos') (tS X.K X.mg W ks (sRaise x f)) := by
  obtain ⟨C, fI, fd, ec, iC, tI, hC, F, b0, _⟩ := E.ex
  refine ps_imp (ps_raise hc tk (pmk_oex (ds := []) (dvs := []) ec.T iC tI F (hr.mono hk) b0 .nil (passes_call tk fun _ _ _ _ z => z.elim) hg hC (is_c he is_n hs) hdb hs hpl)) fun D σ H h => ?_
  obtain ⟨B, e0, S, r, h⟩ := h
  refine items_run [f] _ r ((post_len h.bind).imp (fun ds e' h vs B1 H1 S1 r1 rl f1 => ?_) fun _ _ z => ExS.toE z)
  obtain ⟨h, hl⟩ := h
  match ds, rl, hl with
  | [d], .cons ry .nil, _ =>
    refine ⟨by simp, fun a ha => ⟨a, C, _, rfl, ec, upd_same, raise_end ec hC r1 f1 ry ha h⟩⟩
theorem tMk0 : True := trivial
theorem pmk_oex0 {CX : CXT} {x : Str} {p pos : Pos} {C fI : Addr} {k : Nat} {fd : FuncData} {ps : List Str} {sp : Sp} {ds : List Value} {dvs : List V} (T : OexC X.K C) (iC : PySem.W.findIn X.K (.ref C) "__init__" = some (some (.ref fI))) (tI : PySem.W.typeIn X.K (.ref fI) = some (.type "function"))
    (F1 : FnOk X.prog X.w X.K X.mg X.base CX k fI fd ps sp) (hr : Room (k + 1) X.A) (hb : Binds X.K fd ps ds) (hd : Vals dvs ds) (hx : Passes CX X (fun _ _ _ => False)) (hg : Gl X x) (hm : X.mg x = some (.ref C))
    (hdb : (x == ("__debug__" : Str)) = false := by decide) :
    PMk X (.Call (.Name x p) [] [] pos) (tMkO C sp dvs tNil) := by
  intro pins s σ H Q I h
  obtain ⟨nm, q, N, bs, bm, sn, sub, ab, col, dd, k0, k1, k2, k3, k5, hC, hbm⟩ := T.cls
  refine wpAny_Call_Name_kw (ld_glob I hg hm ?_ hdb)
  refine PySem.W.callWith_K0 I.kIn T.kC ?_
  have h' : ([] : List V).length ≤ 1000 ∧ ∀ a, H a = none → sp (.ref a :: ([] ++ dvs)) (upd H a (exo a C none))
    (fun v H2 => v = .non ∧ ∃ (d : Addr) (fs : List (Str × V)), H2 a = some (exo a C (some d)) ∧ H2 d = some (exd d fs) ∧ H d = none ∧ Q (.ref C) (some d) (upd (del H2 a) d (.xd fs))) (fun _ _ _ => False) := h
  obtain ⟨_, q1⟩ := h'
  show wpAny _ _ (call (.ref C) []) _ _ _
  obtain ⟨hp, g, dr, tk, os⟩ := s
  have hsz : hp.objs.size ≤ hp.objs.size + 1 := Nat.le_succ _
  have hn : H (hp.objs.size + 1) = none := I.hok.fresh hsz
  have hq := q1 (hp.objs.size + 1) hn
  have kk : ∀ b o, hp.get? b = some o → ((hp.push (PySem.W.kdv_tup [])).push (PySem.HandSPX.excO C hp.objs.size)).get? b = some o := fun b o e => Heap.get?_push_of_some _ (Heap.get?_push_of_some _ e)
  have hget : ((hp.push (PySem.W.kdv_tup [])).push (PySem.HandSPX.excO C hp.objs.size)).get? (hp.objs.size + 1) = some (PySem.HandSPX.excO C hp.objs.size) := by heap_get
  have I2 : Inv X pins σ (upd H (hp.objs.size + 1) (exo (hp.objs.size + 1) C none)) ⟨(hp.push (PySem.W.kdv_tup [])).push (PySem.HandSPX.excO C hp.objs.size), g, dr, tk, os⟩ :=
    I.laid (t' := tk) (a := hp.objs.size + 1) (o := exo (hp.objs.size + 1) C none) (h' := (hp.push (PySem.W.kdv_tup [])).push (PySem.HandSPX.excO C hp.objs.size)) kk hsz (exo_ok hget)
  have r2 : Vals (V.ref (hp.objs.size + 1) :: ([] ++ dvs)) (Value.ref (hp.objs.size + 1) :: ([] ++ ds)) := .cons rfl hd
  have hl : (Value.ref (hp.objs.size + 1) :: ([] : List Value) ++ ds).length = ps.length := by
    have e := r2.length
    rw [F1.len _ _ _ _ hq] at e
    exact e.symm
  refine wpAny_call (PySem.HandSPX.call_own F.excBase_ValueError (fun Y => PySem.HandSPX.refsVE_contains Y bm hbm) (I.kIn _ _ hC) (PySem.W.looks_findIn I.kIn iC) (fun self => PySem.W.bind_fn I.kIn self tI) (by rw [sizeLine_eq]; simp)
    (codeAny_mono (F1.run _ X.stack _ _ ⟨Value.ref (hp.objs.size + 1) :: [], []⟩ (Value.ref (hp.objs.size + 1) :: ([] ++ ds)) _ _ (fun _ _ _ => False) (hr.make C [] []) (I2.env0.make C [] []) (show BindsTo _ fd ⟨Value.ref (hp.objs.size + 1) :: [], []⟩ (ps.zip (Value.ref (hp.objs.size + 1) :: ([] ++ ds))) from hb _ [Value.ref (hp.objs.size + 1)] I2.kIn hl) r2 hq) fun r s' hq' => ?_))
  cases r with
  | error er => exact hx pins σ _ _ er s' I2 hq'
  | ok fl =>
    cases fl with
    | ret u =>
      obtain ⟨v, H2, os2, bare2, un2, hok2, rv, ev, d, fs, ea, ed, hd1, q2⟩ := hq'
      subst ev
      obtain ⟨h2, g2, d2, t2, os'⟩ := s'
      exact ⟨rv, mk_end (raises_own T.exC T.tyC) I hsz kk un2 hok2 os2 bare2 ea ed hd1 q2⟩
    | next => exact False.elim hq'
    | brk => exact False.elim hq'
    | cont => exact False.elim hq'
theorem s_raise0 {x : Str} {k j : Nat} {p pos pos' : Pos} (E : Er X.prog X.w X.K X.mg X.base k x) (hr : Room j X.A) (tk : Takes X W) (hk : k + 1 ≤ j := by decide) (hc : X.calm = true := by rfl) (hg : Gl X x := by rfl)
    (hdb : (x == ("__debug__" : Str)) = false := by decide) :
    PS X (.Raise (some (.Call (.Name x p) [] [] pos)) none pos') (tS X.K X.mg W ks (sRaise0 x)) := by
  obtain ⟨C, fI, fd, ec, iC, tI, hC, F, _, ds, vd, b0⟩ := E.ex
  refine ps_imp (ps_raise hc tk (pmk_oex0 (ds := ds) (dvs := [.non]) ec.T iC tI F (hr.mono hk) b0 vd (passes_call tk fun _ _ _ _ z => z.elim) hg hC hdb)) fun D σ H h => ?_
  obtain ⟨B, e0, S, r, h⟩ := h
  exact ⟨by simp, fun a ha => ⟨a, C, .non, rfl, ec, upd_same, raise_end ec hC r (Fr.refl _ _ _) .non ha h⟩⟩
end
end Dn

namespace Dn
open PySem L2
open Evl (Ex)

/-! ## 40. try .. except .. as .. -/
/-- behind a clause's suite: its name is gone; a suite that raises isn't covered -/
def wipeR (i : Nat) : Option (Ro Fl) → Option (Ro Fl)
  | some (.ok fl e) => some (.ok fl (e.set i none))
  | _ => none
/-- what a clause's suite gives, wherever the error stands -/
def Suits (i : Nat) (h : Addr → Addr → Exn → M Fl) (x : Exn) (e : Sl) (r : Ro Fl) : Prop := ∀ a d, wipeR i (h a d x (e.set i (some (.exn a d x)))) = some r
open Classical in
noncomputable def sTry (c : Str → Option Bool) (i : Nat) (body : M Fl) (h : Addr → Addr → Exn → M Fl) : M Fl := fun e => match body e with
  | some (.ex x e') => match c x.cls with
    | some true => if hh : ∃ r, Suits i h x e' r then some hh.choose else none
    | some false => some (.ex x e')
    | none => none
  | r => r
section
variable {K : PySem.W.Frag} {mg : Str → Option Value} {W : WX} {B B' H H' : Hp} {v x y : V} {o : O} {d : D} {σ σ' : St} {e e' : Sl} {S S' : Nat → Addr → Prop} {T T' : Addr → Prop} {ks : List Nat}
/-- the slots without what isn't theirs -/
theorem Rp.less (h : Rp K B H σ e S) {d : Addr} {fs : List (Str × V)} (hd : H d = some (.xd fs)) : Rp K B H σ e (fun j a => S j a ∧ a ≠ d) := by
  refine ⟨h.len, h.ex, fun i o ho => ?_, fun i j a h1 h2 => h.dis i j a h1.1 h2.1, fun i a h1 => h.own i a h1.1⟩
  obtain ⟨v, h1, h2⟩ := h.rep i o ho
  refine ⟨v, h1, h2.iff fun a => ⟨fun z => ⟨z, fun q => ?_⟩, fun z => z.1⟩⟩
  subst q
  cases o with
  | fr _ => exact h2.2 _ z
  | lst ds =>
    obtain ⟨p, xs, e, hp, hr, hs⟩ := h2
    rw [(hs _).mp z, hp] at hd; cases hd
  | dct kvs =>
    obtain ⟨p, xs, e, hp, hk, hr, hs⟩ := h2
    rw [(hs _).mp z, hp] at hd; cases hd
  | ins c ns xs =>
    obtain ⟨p, C, dx, fs, e, hp, hc, hk, hr, hs⟩ := h2
    rw [(hs _).mp z, hp] at hd; cases hd
  | exn _ _ _ => exact h2.2.2 _ z
  | tr t => exact RepT.kind h2 _ z _ hd
/-- slot i emptied on both sides -/
theorem Rp.gone (h : Rp K B H σ e S) (i : Nat) : Rp K B H (σ.set i none) (e.set i none) (fun j => if j = i then noS else S j) := by
  have f := h.forget i
  refine ⟨by rw [List.length_set, List.length_set]; exact h.len, f.ex, fun j o ho => ?_, f.dis, f.own⟩
  obtain ⟨w, h1, h2⟩ := f.rep j o ho
  by_cases hj : j = i
  · subst hj
    by_cases hl : j < e.length
    · rw [List.getElem?_set_self hl] at ho; cases ho
    · rw [List.getElem?_eq_none (by rw [List.length_set]; omega)] at ho; cases ho
  · exact ⟨w, by rw [List.getElem?_set_ne (Ne.symm hj)]; exact h1, h2⟩
theorem Vl.gone (h : Vl K B H σ e S v o T) (i : Nat) : Vl K B H (σ.set i none) (e.set i none) (fun j => if j = i then noS else S j) v o T :=
  ⟨h.rp.gone i, h.ro, h.own, fun a ha z => h.dj a ha (tot_forget z)⟩
end
section
variable {X : Cx} {W : WX} {ks : List Nat} {cv : Value} {c : Str → Option Bool} {i : Nat} {x n : Str} {body suite : List Stmt} {b₀ : Stmt} {np pos pos' : Pos} {gb : M Fl} {h : Addr → Addr → Exn → M Fl}
theorem s_try (hN : X.N.Nodup) (hi : X.N[i]? = some n) (hc : Names X x cv) (tk : Takes X W) (ht : ∀ y b C, c y = some b → X.mg y = some (.ref C) → PySem.W.exmOne X.K (.ref C) cv = some b)
    (hb : ∀ (W : WX) (pn : List (Addr × Obj)) (xe : Value → Shared → Prop), Takes (X.tr pn xe) W → PassesOwn (model X.prog X.w) X.A X.env xe → PSs (X.tr pn xe) body (tS X.K X.mg W ks gb))
    (hsu : ∀ (a : Addr) (oe : Obj) (C dd : Addr) (y : Exn) (pn : List (Addr × Obj)), X.mg y.cls = some (.ref C) → Zc (.ref C) (some dd) oe → (∃ vs, oe.data = .fields vs) →
      PSs (X.suite a ((a, oe) :: pn)) (b₀ :: suite) (tS X.K X.mg (fun _ _ _ _ => False) ks (h a dd y)))
    (hk : i ∉ ks := by decide) (hs : X.stack = X.env :: X.outer := by rfl) (hf : X.env.frame = some X.env.locals := by rfl) (hln : X.env.kindOf n = some .local := by rfl) :
    PS X (.Try body [.ExceptHandler (some (.Name x np)) (some n) (b₀ :: suite) pos'] [] [] pos) (tS X.K X.mg W ks (sTry c i gb h)) := by
  refine ps_imp (ps_try_as (c := cv) (Wout := W) (tb := fun W => tS X.K X.mg W ks gb)
    (ts := fun a cls d D σ H => ∃ (C dd : Addr) (y : Exn), cls = .ref C ∧ d = some dd ∧ X.mg y.cls = some (.ref C) ∧ tS X.K X.mg (fun _ _ _ _ => False) ks (h a dd y) D σ H)
    hs hf hN hi hln hc tk hb (fun a oe cls d pn hz hv => ⟨fun pins s σ H D I q => ?_⟩)) fun D σ H q => ?_
  · obtain ⟨C, dd, y, rfl, rfl, hC, q⟩ := q
    exact (hsu a oe C dd y pn hC hz hv).run pins s σ H D I q
  · obtain ⟨B, e, S, r, q⟩ := q
    refine ⟨B, e, S, r, ?_⟩
    change Post (sTry c i gb h e) (Nd X.K D ks B H S σ) (ExS X.K X.mg W ks B H S σ) at q
    change Post (gb e) (Nd X.K D ks B H S σ) (ExS X.K X.mg _ ks B H S σ)
    unfold sTry at q
    cases hg : gb e with
    | none => rw [hg] at q; exact q.elim
    | some ro =>
      rw [hg] at q
      cases ro with
      | ok fl e' => exact q
      | ex y e' =>
        intro C d fs σ' B' H' S' hC r' hd hx hn k' f'
        dsimp only at q
        cases hcy : c y.cls with
        | none => rw [hcy] at q; exact q.elim
        | some b =>
          rw [hcy] at q
          cases b with
          | false =>
            refine ⟨false, ht _ _ _ hcy hC, fun z => (nomatch z), fun _ => ?_⟩
            exact (show ExS X.K X.mg W ks B H S σ y e' from q) C d fs σ' B' H' S' hC r' hd hx hn k' f'
          | true =>
            refine ⟨true, ht _ _ _ hcy hC, fun _ a ha => ⟨C, d, y, rfl, rfl, hC, ?_⟩, fun z => (nomatch z)⟩
            dsimp only at q
            by_cases hh : ∃ r, Suits i h y e' r
            · rw [dif_pos hh] at q
              have sp := hh.choose_spec
              generalize hh.choose = rr at q sp
              have sp2 := sp a d
              have hB : Ex B' (upd B' d (.xd fs)) := fun b u z => by
                by_cases hb : b = d
                · subst hb; rw [upd_same]; exact (r'.ex _ _ z).symm.trans hd |>.symm ▸ rfl
                · rw [upd_ne hb]; exact z
              have hH : Ex (upd B' d (.xd fs)) H' := fun b u z => by
                by_cases hb : b = d
                · subst hb; rw [upd_same] at z; cases z; exact hd
                · rw [upd_ne hb] at z; exact r'.ex _ _ z
              have r1 : Rp X.K (upd B' d (.xd fs)) H' σ' e' (fun j a => S' j a ∧ a ≠ d) := (r'.less hd).bgrow hB hH fun j b z => by
                rw [upd_ne z.2]; exact (r'.own j b z.1).1
              have vl : Vl X.K (upd B' d (.xd fs)) H' σ' e' (fun j a => S' j a ∧ a ≠ d) (.ref a) (.exn a d y) noS :=
                ⟨r1, ⟨rfl, ⟨fs, upd_same, hx.mono hB⟩, fun _ z => z⟩, own_no, fun _ z => z.elim⟩
              have f2 : Fr B H (tot S) (upd B' d (.xd fs)) H' (tot (fun j => if j = i then (if i < e'.length then noS else noS) else fun a => S' j a ∧ a ≠ d)) := by
                refine ⟨f'.b.trans hB, f'.k, fun b z => f'.n b ?_, fun b u z => ?_, f'.a⟩
                · rcases tot_set z with z | ⟨j, z⟩
                  · exact z.elim
                  · exact ⟨j, z.1⟩
                · by_cases hb : b = d
                  · subst hb; exact .inr (.inr hn)
                  · rw [upd_ne hb] at z; exact f'.c _ _ z
              have k2 : Kp ks σ (σ'.set i (some (.ref a))) := k'.trans (Kp.set hk)
              refine ⟨_, _, _, vl.set i, ?_⟩
              change Post (h a d y (e'.set i (some (.exn a d y)))) _ _
              cases hq : h a d y (e'.set i (some (.exn a d y))) with
              | none => rw [hq] at sp2; cases sp2
              | some ro2 =>
                rw [hq] at sp2
                cases ro2 with
                | ex _ _ => cases sp2
                | ok fl e3 =>
                  cases sp2
                  have q' : Nd X.K D ks B H S σ fl (e3.set i none) := q
                  cases fl with
                  | next => exact fun σ4 B4 H4 S4 r4 k4 f4 => q' (σ4.set i none) B4 H4 _ (r4.gone i) ((k2.trans k4).trans (Kp.set hk)) ((f2.trans f4).imp (fun _ z => z) fun _ z => tot_forget z)
                  | brk => exact fun σ4 B4 H4 S4 r4 k4 f4 => q' (σ4.set i none) B4 H4 _ (r4.gone i) ((k2.trans k4).trans (Kp.set hk)) ((f2.trans f4).imp (fun _ z => z) fun _ z => tot_forget z)
                  | cnt => exact fun σ4 B4 H4 S4 r4 k4 f4 => q' (σ4.set i none) B4 H4 _ (r4.gone i) ((k2.trans k4).trans (Kp.set hk)) ((f2.trans f4).imp (fun _ z => z) fun _ z => tot_forget z)
                  | ret o => exact fun v σ4 B4 H4 S4 T vl4 k4 f4 => q' v (σ4.set i none) B4 H4 _ T (vl4.gone i) ((k2.trans k4).trans (Kp.set hk)) ((f2.trans f4).imp (fun _ z => z) fun _ z => z.elim .inl fun z => .inr (tot_forget z))
            · rw [dif_neg hh] at q; exact q.elim
end

/-! ## 41. What a clause's suite asks of its error -/
/-- y.word, y.place: cs the classes that are known -/
def eXf (cs : List Str) (a d : Addr) (y : Exn) (i : Nat) (f : Str) : M O := fun e => if y.cls ∈ cs then match e[i]? with
  | some (some (.exn a' d' z)) => if a' = a ∧ d' = d then (z.fs.lookup f).map fun u => .ok (.fr u) e else none
  | _ => none
  else none
/-- isinstance(y, t) -/
def eXi (t : Str → Option Bool) (a d : Addr) (y : Exn) (i : Nat) : M O := fun e => match e[i]? with
  | some (some (.exn a' d' z)) => if a' = a ∧ d' = d then (t y.cls).map fun b => .ok (bO b) e else none
  | _ => none
/-- what the written part says of the classes cs -/
structure XfT (K : PySem.W.Frag) (mg : Str → Option Value) (cs : List Str) : Prop where
  of : ∀ y ∈ cs, ∀ C, mg y = some (.ref C) → XfC K C ∧ PySem.W.findIn K (.ref C) "word" = some none ∧ PySem.W.findIn K (.ref C) "place" = some none
theorem xf_lookup {K : PySem.W.Frag} {B : Hp} {f : Str} : ∀ {fs : List (Str × V)} {gs : List (Str × D)} {d : D}, XF K B fs gs → gs.lookup f = some d → ∃ v, fs.lookup f = some v ∧ Rep K B v d
  | _, _, _, .nil, h => by cases h
  | p :: fs, q :: gs, d, .cons hpq hr, h => by
    obtain ⟨a, v⟩ := p
    obtain ⟨b, u⟩ := q
    obtain ⟨e, r⟩ := hpq
    dsimp only at e r
    subst e
    rw [List.lookup_cons] at h ⊢
    split at h
    · cases h; exact ⟨v, rfl, r⟩
    · exact xf_lookup hr h
section
variable {X : Cx} {W : WX} {a C dd : Addr} {oe : Obj} {pn : List (Addr × Obj)} {y : Exn} {i : Nat} {n : Str} {pos p p1 p2 : Pos} {cs : List Str}
theorem d_xf {f : Str} (T : XfT X.K X.mg cs) (hf' : f = "word" ∨ f = "place") (hC : X.mg y.cls = some (.ref C)) (hz : Zc (.ref C) (some dd) oe) (hf : ∃ vs, oe.data = .fields vs) (hv : PE (X.suite a ((a, oe) :: pn)) (.Name n p) (tVar i))
    (hb : attributeBase (.Name n p) f X.env (eval (.Name n p) X.env) = eval (.Name n p) X.env := by rfl) :
    PE (X.suite a ((a, oe) :: pn)) (.Attribute (.Name n p) f pos) (tE X.K X.mg W (eXf cs a dd y i f)) := by
  refine ⟨fun pins s σ H Q I h => ?_⟩
  obtain ⟨B, e, S, r, h⟩ := h
  unfold eXf at h
  by_cases hy : y.cls ∈ cs
  · rw [if_pos hy] at h
    obtain ⟨xc, nw, np⟩ := T.of _ hy _ hC
    have hno : PySem.W.findIn X.K (.ref C) f = some none := by
      rcases hf' with rfl | rfl
      · exact nw
      · exact np
    refine (pe_xf xc hno hz hf hv hb).run pins s σ H Q I ?_
    split at h
    · rename_i a' d' z hz'
      split at h
      · rename_i had
        obtain ⟨rfl, rfl⟩ := had
        cases hl : z.fs.lookup f with
        | none => rw [hl] at h; exact h.elim
        | some u =>
          rw [hl] at h
          obtain ⟨v, hv', rv, ⟨fs, hd, hx⟩, _⟩ := r.rep i _ hz'
          obtain ⟨w, lw, rw'⟩ := xf_lookup hx hl
          subst rv
          have h' : ∀ v B' H' S' T, Vl X.K B' H' σ e S' v (.fr u) T → Fr B H (tot S) B' H' (fun a => T a ∨ tot S' a) → Q v H' := h
          exact ⟨_, hv', rfl, rfl, d', fs, w, rfl, r.ex _ _ hd, lw, h' w B H S noS (.fr r rw') ((Fr.refl _ _ _).imp (fun _ z => z) fun a z => z.elim (fun z => z.elim) id)⟩
      · exact h.elim
    · exact h.elim
  · rw [if_neg hy] at h; exact h.elim
/-- what isinstance asks of the classes: cv stands for the class t asked for -/
structure XiT (K : PySem.W.Frag) (mg : Str → Option Value) (t : Str → Option Bool) (cv : Value) : Prop where
  of : ∀ y b, t y = some b → ∀ C, mg y = some (.ref C) → ExcC K C ∧ PySem.W.kitOne K (.ref C) cv = some b
theorem call_isX {D d : Addr} {gt : Option Value} (E : ExcC X.K D) (hz : Zc (.ref D) (some d) oe) (hf : ∃ vs, oe.data = .fields vs) :
    CallR (X.suite a ((a, oe) :: pn)) (.builtin "isinstance") (fun xs H Q => (∃ fs, H d = some (.xd fs)) ∧ rIsE X.K D a xs H Q) := by
  intro pins s σ H xs us Q I r h
  obtain ⟨⟨fs, hd⟩, c, cv, b, rfl, hcv, e, q⟩ := h
  cases r with
  | cons rx rr =>
    cases rr with
    | cons rt rr =>
      cases rr
      cases rx
      have ec := hcv _ rt
      subst ec
      obtain ⟨hget, _⟩ := I.pin (a, oe) (List.mem_append.mpr (.inl List.mem_cons_self))
      obtain ⟨vs, hv⟩ := hf
      have hx : ObjOk X.prog X.w H s.heap d (.xd fs) := I.hok d _ hd
      obtain ⟨mA, hns, hr⟩ := hx
      obtain ⟨od, ho, hl⟩ := lookIn_ns hns
      have J : PySem.W.InstAt s.heap a oe D (some od) := ⟨hget, hz.1, by unfold PySem.W.notCls; rw [hv] <;> rfl, by rw [hz.2]; exact ho⟩
      have hcl : (PySem.W.clsIn X.K D).isSome = true := by obtain ⟨cd, hc, _⟩ := PySem.W.any_some E.hd; rw [hc]; rfl
      exact PySem.W.kia_one (PySem.W.kitx_exc hcl E.hg E.hk E.hs E.ha E.hn E.ht E.hm) I.kIn J e (fun z => nomatch z) fun tk => ⟨.bl b, H, I.kept (t' := tk) fun _ _ z => z, rfl, q⟩
theorem d_xi {t : Str → Option Bool} {cv : Value} {c : V} {x : Str} (T : XiT X.K X.mg t cv) (hC : X.mg y.cls = some (.ref C)) (hz : Zc (.ref C) (some dd) oe) (hf : ∃ vs, oe.data = .fields vs) (hv : PE (X.suite a ((a, oe) :: pn)) (.Name n p) (tVar i))
    (hg : Gl X "isinstance") (hm : X.mg "isinstance" = none) (hvi : bootBuiltins "isinstance" = some (.builtin "isinstance")) (hcl : PE (X.suite a ((a, oe) :: pn)) (.Name x p2) (tC c)) (hcv : ∀ u, RelV c u → u = cv)
    (hs1 : starEach (.Name n p :: [.Name x p2]) X.env = (false, eval (.Name n p) X.env) :: starEach [.Name x p2] X.env := by rfl) (hs2 : starEach (.Name x p2 :: []) X.env = (false, eval (.Name x p2) X.env) :: starEach [] X.env := by rfl)
    (hpl : (backTo pos (starEach [.Name x p2] X.env)).any (·.1) = false := by rfl) : PE (X.suite a ((a, oe) :: pn)) (.Call (.Name "isinstance" p1) [.Name n p, .Name x p2] [] pos) (tE X.K X.mg W (eXi t a dd y i)) := by
  refine ⟨fun pins s σ H Q I h => ?_⟩
  obtain ⟨B, e, S, r, h⟩ := h
  unfold eXi at h
  split at h
  · rename_i a' d' z hz'
    split at h
    · rename_i had
      obtain ⟨rfl, rfl⟩ := had
      cases hl : t y.cls with
      | none => rw [hl] at h; exact h.elim
      | some b =>
        rw [hl] at h
        obtain ⟨E, hk⟩ := T.of _ _ hl _ hC
        obtain ⟨v, hv', rv, ⟨fs, hd, hx⟩, _⟩ := r.rep i _ hz'
        subst rv
        have h' : ∀ v B' H' S' T, Vl X.K B' H' σ e S' v (bO b) T → Fr B H (tot S) B' H' (fun a => T a ∨ tot S' a) → Q v H' := h
        refine (pe_callB (call_isX (gt := none) E hz hf) hg hm hvi (pa_cons hv (pa_cons hcl pa_nil hs2) hs1) (by decide) (by decide) hs1 hpl).run pins s σ H Q I ?_
        exact ⟨_, hv', ⟨fs, r.ex _ _ hd⟩, c, cv, b, rfl, hcv, hk, h' _ B H S noS (.fr r (.bl b)) ((Fr.refl _ _ _).imp (fun _ z => z) fun a z => z.elim (fun z => z.elim) id)⟩
    · exact h.elim
  · exact h.elim
end
end Dn

namespace Dn
open PySem L2
open PyProof.Rows (envOfC)
open Evl (Ex)
open ClX

/-! ## 42. Classes of errors by tables, as the walk's text has them -/
/-- the table of a class: which classes are under it -/
def isaL (l : List (Str × Bool)) : Str → Option Bool := fun y => l.lookup y
theorem isa_all {P : Str → Bool → Prop} : ∀ {l : List (Str × Bool)}, (∀ p ∈ l, P p.1 p.2) → ∀ y b, isaL l y = some b → P y b
  | [], _, _, _, h => by cases h
  | p :: l, ha, y, b, h => by
    have h' : (p :: l).lookup y = some b := h
    rw [show p :: l = (p.1, p.2) :: l from rfl, List.lookup_cons] at h'
    split at h'
    · rename_i e
      cases h'
      rw [eq_of_beq e]
      exact ha p List.mem_cons_self
    · exact isa_all (fun q hq => ha q (List.mem_cons_of_mem _ hq)) y b h'
/-- a class that an except clause or isinstance names -/
structure Ec (K : PySem.W.Frag) (mg : Str → Option Value) (l : List (Str × Bool)) (x : Str) : Prop where
  ex : ∃ C, mg x = some (.ref C) ∧ ∀ y b, isaL l y = some b → ∀ C', mg y = some (.ref C') → PySem.W.exmOne K (.ref C') (.ref C) = some b
structure Ic (K : PySem.W.Frag) (mg : Str → Option Value) (l : List (Str × Bool)) (x : Str) : Prop where
  ex : ∃ C, mg x = some (.ref C) ∧ XiT K mg (isaL l) (.ref C)
structure Ib (K : PySem.W.Frag) (mg : Str → Option Value) (l : List (Str × Bool)) (x : Str) (T : String) : Prop where
  no : mg x = none
  bt : bootBuiltins x = some (.type T)
  of : XiT K mg (isaL l) (.type T)
section
variable {X : Cx} {W : WX} {a C dd : Addr} {oe : Obj} {pn : List (Addr × Obj)} {y : Exn} {i : Nat} {n x : Str} {pos p p1 p2 : Pos} {l : List (Str × Bool)}
theorem d_xic (T : Ic X.K X.mg l x) (hm : X.mg "isinstance" = none) (hvi : bootBuiltins "isinstance" = some (.builtin "isinstance")) (hC : X.mg y.cls = some (.ref C)) (hz : Zc (.ref C) (some dd) oe) (hf : ∃ vs, oe.data = .fields vs) (hv : PE (X.suite a ((a, oe) :: pn)) (.Name n p) (tVar i))
    (hg : Gl X "isinstance" := by rfl) (hgx : Gl X x := by rfl) (hdb : (x == ("__debug__" : Str)) = false := by decide)
    (hs1 : starEach (.Name n p :: [.Name x p2]) X.env = (false, eval (.Name n p) X.env) :: starEach [.Name x p2] X.env := by rfl) (hs2 : starEach (.Name x p2 :: []) X.env = (false, eval (.Name x p2) X.env) :: starEach [] X.env := by rfl)
    (hpl : (backTo pos (starEach [.Name x p2] X.env)).any (·.1) = false := by rfl) : PE (X.suite a ((a, oe) :: pn)) (.Call (.Name "isinstance" p1) [.Name n p, .Name x p2] [] pos) (tE X.K X.mg W (eXi (isaL l) a dd y i)) := by
  obtain ⟨D, hm2, T⟩ := T.ex
  exact d_xi T hC hz hf hv hg hm hvi (pe_glob (X := X.suite a ((a, oe) :: pn)) (v := .ref D) hgx hm2 rfl hdb) (fun u h => h) hs1 hs2 hpl
theorem d_xib {T : String} (B : Ib X.K X.mg l x T) (hm : X.mg "isinstance" = none) (hvi : bootBuiltins "isinstance" = some (.builtin "isinstance")) (hC : X.mg y.cls = some (.ref C)) (hz : Zc (.ref C) (some dd) oe) (hf : ∃ vs, oe.data = .fields vs) (hv : PE (X.suite a ((a, oe) :: pn)) (.Name n p) (tVar i))
    (hg : Gl X "isinstance" := by rfl) (hgx : Gl X x := by rfl) (hn : x ≠ "__name__" := by decide) (hdb : (x == ("__debug__" : Str)) = false := by decide)
    (hs1 : starEach (.Name n p :: [.Name x p2]) X.env = (false, eval (.Name n p) X.env) :: starEach [.Name x p2] X.env := by rfl) (hs2 : starEach (.Name x p2 :: []) X.env = (false, eval (.Name x p2) X.env) :: starEach [] X.env := by rfl)
    (hpl : (backTo pos (starEach [.Name x p2] X.env)).any (·.1) = false := by rfl) : PE (X.suite a ((a, oe) :: pn)) (.Call (.Name "isinstance" p1) [.Name n p, .Name x p2] [] pos) (tE X.K X.mg W (eXi (isaL l) a dd y i)) :=
  d_xi B.of hC hz hf hv hg hm hvi (pe_bltn (X := X.suite a ((a, oe) :: pn)) (v := .ty T) hgx B.no B.bt rfl hn hdb) (fun u h => h) hs1 hs2 hpl
end
section
variable {X : Cx} {W : WX} {ks : List Nat} {i : Nat} {x n : Str} {body suite : List Stmt} {b₀ : Stmt} {np pos pos' : Pos} {gb : M Fl} {h : Addr → Addr → Exn → M Fl} {l : List (Str × Bool)}
theorem s_tryc (hN : X.N.Nodup) (hi : X.N[i]? = some n) (E : Ec X.K X.mg l x) (tk : Takes X W)
    (hb : ∀ (W : WX) (pn : List (Addr × Obj)) (xe : Value → Shared → Prop), Takes (X.tr pn xe) W → PassesOwn (model X.prog X.w) X.A X.env xe → PSs (X.tr pn xe) body (tS X.K X.mg W ks gb))
    (hsu : ∀ (a : Addr) (oe : Obj) (C dd : Addr) (y : Exn) (pn : List (Addr × Obj)), X.mg y.cls = some (.ref C) → Zc (.ref C) (some dd) oe → (∃ vs, oe.data = .fields vs) →
      PSs (X.suite a ((a, oe) :: pn)) (b₀ :: suite) (tS X.K X.mg (fun _ _ _ _ => False) ks (h a dd y)))
    (hk : i ∉ ks := by decide) (hs : X.stack = X.env :: X.outer := by rfl) (hf : X.env.frame = some X.env.locals := by rfl) (hln : X.env.kindOf n = some .local := by rfl) (hg : Gl X x := by rfl) (hdb : (x == ("__debug__" : Str)) = false := by decide) :
    PS X (.Try body [.ExceptHandler (some (.Name x np)) (some n) (b₀ :: suite) pos'] [] [] pos) (tS X.K X.mg W ks (sTry (isaL l) i gb h)) := by
  obtain ⟨C, hm, hx⟩ := E.ex
  exact s_try hN hi ⟨hg, hdb, .inl hm⟩ tk (fun y b C h => hx y b h C) hb hsu hk hs hf hln
end
/-- the first of the error classes -/
structure Er0 (P : Program) (w : World) (K : PySem.W.Frag) (mg : Str → Option Value) (base : Heap) (k : Nat) (x : Str) : Prop where
  ex : ∃ (C f : Addr) (fd : FuncData), mg x = some (.ref C) ∧ CRead K C (.type "type") ∧ PySem.W.findCls K (.ref C) (.type "type") "__init__" = some (.val (.ref f)) ∧ PySem.W.keepIn K (.ref f) = true ∧
    FnOk P w K mg base (L2.CX P w) k f fd ["self", "word", "place"] (spT K) ∧ Binds K fd ["self", "word", "place"] []
section
variable {P : Program} {w : World} {K : PySem.W.Frag} {mg : Str → Option Value} {base : Heap}
theorem ok_initC {x0 qual x : Str} {st : Stmt} {f : Addr} {fd : FuncData} {k : Nat} (F : FunX K "__init__" qual st f fd) (Sc : FnScope ["self", "place"] ["self", "place"] (defScope st)) (E0 : Er0 P w K mg base k x0)
    (hb : ∀ (C f0 : Addr) (fd0 : FuncData), mg x0 = some (.ref C) → CRead K C (.type "type") → PySem.W.findCls K (.ref C) (.type "type") "__init__" = some (.val (.ref f0)) → PySem.W.keepIn K (.ref f0) = true →
      FnOk P w K mg base (L2.CX P w) k f0 fd0 ["self", "word", "place"] (spT K) → Binds K fd0 ["self", "word", "place"] [] →
      ∀ (cdv : Value) (A : Around) (outer : List PySem.Env) (s : Shared) (H : Hp) (E : XK), Room k (A.deeper (envOfC qual (defScope st) s.heap.objs.size f cdv)) → Takes (cxOf (L2.CX P w) P w K mg base ["self", "place"] qual (defScope st) f cdv A outer s H E) (fun cls d _ H => E cls d H) →
      PSs (cxOf (L2.CX P w) P w K mg base ["self", "place"] qual (defScope st) f cdv A outer s H E) (defBody st) (tDrop (tCall (spT K) [] (fun _ _ _ => False) (tCons (tVar 0) (tCons (tC (.str x)) (tCons (tVar 1) tNil)))))) :
    FnOk P w K mg base (L2.CX P w) (k + 1) f fd ["self", "place"] (spB K x) := by
  obtain ⟨C, f0, fd0, h1, h2, h3, h4, h5, h6⟩ := E0.ex
  exact ok_initB F Sc fun cdv A outer s H E hr => hb C f0 fd0 h1 h2 h3 h4 h5 h6 cdv A outer s H E hr (takes_of rfl rfl rfl rfl)
/-- a def with defaults, its text told -/
theorem funD_mk {x qual : Str} {st : Stmt} {f T : Addr} {oc : Value} {od an : Option Addr} {osl : Array (Option Value)} {kV doc pm cdv ct : Value} {its : List Value} {n : Nat} {dd : Option Addr} {sl : Array (Option Value)} {dvs : List V}
    (l : K.lookup f = some ⟨oc, od, .func (PySem.W.fnOf x qual (defArgs st) (defBody st) (defScope st) (.ref T) kV doc pm an cdv ct), osl⟩) (c : PySem.W.codeIn K cdv qual = true) (k : PySem.W.keepIn K (.ref f) = true)
    (lT : K.lookup T = some ⟨.type "tuple", dd, .seq its.toArray n, sl⟩) (r : Vals dvs its) (hd : dvs ≠ []) : FunD K x qual (defArgs st) (defBody st) (defScope st) dvs [] f (PySem.W.fnOf x qual (defArgs st) (defBody st) (defScope st) (.ref T) kV doc pm an cdv ct) :=
  ⟨⟨oc, od, .ref T, kV, doc, pm, an, cdv, ct, osl, rfl, l, c, .inr ⟨hd, T, _, its, n, rfl, lT, rfl, r⟩, .inl rfl⟩, k⟩
theorem funX_mk {x qual : Str} {st : Stmt} {f : Addr} {dV : Value} {oc : Value} {od an : Option Addr} {osl : Array (Option Value)} {kV doc pm cdv ct : Value}
    (l : K.lookup f = some ⟨oc, od, .func (PySem.W.fnOf x qual (defArgs st) (defBody st) (defScope st) dV kV doc pm an cdv ct), osl⟩) (c : PySem.W.codeIn K cdv qual = true) : FunX K x qual st f (PySem.W.fnOf x qual (defArgs st) (defBody st) (defScope st) dV kV doc pm an cdv ct) :=
  ⟨⟨oc, od, dV, kV, doc, pm, an, cdv, ct, osl, rfl, l, c⟩⟩
theorem cl_mkD {k n : Nat} {x : Str} {F : Fn} {f : Addr} {fd : FuncData} {ps : List Str} {dvs : List V} {dv : List D} (h : FnOk P w K mg base (L2.CX P w) k f fd ps (spD K mg n F)) (hm : mg x = some (.ref f)) (hk : PySem.W.keepIn K (.ref f) = true) (hb : ∃ ds, Vals dvs ds ∧ Binds K fd ps ds) (hr : ∀ B, RepL K B dvs dv) (hn : ps.length = n := by rfl) : Cl P w K mg base k x n F dv := by
  obtain ⟨ds, h1, h2⟩ := hb
  exact ⟨f, fd, ps, ds, dvs, hn, by rw [hn]; exact h, hm, hk, h2, h1, hr⟩
/-- an empty tuple of the module's -/
theorem rep_unit {B : Hp} {U : Addr} {dd : Option Addr} {n : Nat} {sl : Array (Option Value)} (l : K.lookup U = some ⟨.type "tuple", dd, .seq #[] n, sl⟩) : Rep K B (.ref U) (.tup []) :=
  .tup (.inr ⟨Nat.zero_le _, .inr ⟨_, #[], n, l, rfl, rfl, Nat.zero_le _, .nil⟩⟩) .nil
theorem er_mk {x : Str} {k : Nat} {C fI : Addr} {fd : FuncData} (e : ErC K C) (iC : PySem.W.findIn K (.ref C) "__init__" = some (some (.ref fI))) (tI : PySem.W.typeIn K (.ref fI) = some (.type "function")) (hm : mg x = some (.ref C))
    (F : FnOk P w K mg base (L2.CX P w) k fI fd ["self", "place"] (spB K x)) (b1 : ∃ ds, Vals (([.non] : List V).drop 1) ds ∧ Binds K fd ["self", "place"] ds) (b0 : ∃ ds, Vals (([.non] : List V).drop 0) ds ∧ Binds K fd ["self", "place"] ds) : Er P w K mg base k x := by
  obtain ⟨ds, h1, h2⟩ := b1
  cases h1
  exact ⟨C, fI, fd, e, iC, tI, hm, F, h2, b0⟩
theorem er0_mk {x : Str} {k : Nat} {C f : Addr} {fd : FuncData} (hm : mg x = some (.ref C)) (rd : PySem.W.readsIn K C (.type "type") = true) (ga : PySem.W.specialIn K (.ref C) "__getattribute__" = some (some (.builtin "type.__getattribute__")))
    (cf : PySem.W.findCls K (.ref C) (.type "type") "__init__" = some (.val (.ref f))) (hk : PySem.W.keepIn K (.ref f) = true) (F : FnOk P w K mg base (L2.CX P w) k f fd ["self", "word", "place"] (spT K)) (b : ∃ ds, Vals (([.non] : List V).drop 1) ds ∧ Binds K fd ["self", "word", "place"] ds) : Er0 P w K mg base k x := by
  obtain ⟨ds, h1, h2⟩ := b
  cases h1
  exact ⟨C, f, fd, hm, ⟨rd, ga⟩, cf, hk, F, h2⟩
/-- what the text tells of an error class -/
structure Ek (K : PySem.W.Frag) (mg : Str → Option Value) (x : Str) (C : Addr) : Prop where
  hm : mg x = some (.ref C)
  er : ErC K C
  xf : XfC K C
  ec : ExcC K C
theorem ek_mk {x : Str} {C : Addr} {nm q : Str} {N : Addr} {bs bm : List Value} {sn : List Str} {sub : List Value} {ab : Bool} {col : Option Bool} {dd : Option Addr} {m0 m1 m2 m3 m5 : Option Value} (hm : mg x = some (.ref C))
    (xL : K.lookup C = some (excClassObj nm q C N bs bm true sn sub ab col dd m0 m1 m2 m3 m5 "ValueError.__new__")) (hbm : PySem.HandSPX.refsVE bm = true)
    (sa : PySem.W.findIn K (.ref C) "__setattr__" = some (some (.builtin "object.__setattr__"))) (ga : PySem.W.findIn K (.ref C) "__getattribute__" = some (some (.builtin "BaseException.__getattribute__"))) (gg : PySem.W.findIn K (.ref C) "__getattr__" = some none)
    (nW : PySem.W.findIn K (.ref C) "word" = some none) (nP : PySem.W.findIn K (.ref C) "place" = some none) (kC : PySem.W.keepIn K (.ref C) = true) (eC : PySem.W.subIn K (.ref C) (.type "BaseException") = some true) (tC : PySem.W.typeIn K (.ref C) = some (.type "type")) (hC : PySem.W.hasDictIn K C = true)
    (ca : PySem.W.findIn K (.ref C) "__class__" = some (some (.builtin "object.__class__"))) (hn : PySem.W.specialIn K (.builtin "object.__class__") "__get__" = some (some (.builtin "getset_descriptor.__get__"))) (ht : PySem.W.takesIn K (.builtin "object.__class__") = some true) (mo : PySem.W.mroIn K C (.type "object") = some true) : Ek K mg x C :=
  ⟨hm, ⟨⟨⟨nm, q, N, bs, bm, sn, sub, ab, col, dd, m0, m1, m2, m3, m5, xL, hbm⟩, sa, eC, tC, kC⟩, nW, nP⟩, ⟨ga, gg, eC, hC⟩, ⟨ga, gg, eC, hC, ca, hn, ht, mo⟩⟩
theorem ek_only {x : Str} {C C' : Addr} (h : Ek K mg x C) (h' : mg x = some (.ref C')) : C' = C := by
  rw [h.hm] at h'
  cases h'
  rfl
/-- a row of a table -/
theorem row_e {x : Str} {C D : Addr} {b : Bool} (h : Ek K mg x C) (hD : PySem.W.subIn K (.ref D) (.type "BaseException") = some true) (hd : PySem.W.hasDictIn K D = true) (tD : PySem.W.typeIn K (.ref D) = some (.type "type")) (s : PySem.W.subIn K (.ref C) (.ref D) = some b) :
    ∀ C', mg x = some (.ref C') → PySem.W.exmOne K (.ref C') (.ref D) = some b := fun C' h' => by
  rw [ek_only h h']
  exact PySem.W.exm_ref hD hd tD s
theorem row_i {x : Str} {C : Addr} {cv : Value} {b : Bool} (h : Ek K mg x C) (s : PySem.W.kitOne K (.ref C) cv = some b) : ∀ C', mg x = some (.ref C') → ExcC K C' ∧ PySem.W.kitOne K (.ref C') cv = some b := fun C' h' => by
  rw [ek_only h h']
  exact ⟨h.ec, s⟩
theorem kit_c {C D : Addr} {b : Bool} (hd : PySem.W.hasDictIn K D = true) (tD : PySem.W.typeIn K (.ref D) = some (.type "type")) (s : PySem.W.subIn K (.ref C) (.ref D) = some b) (r : PySem.W.subIn K (.ref D) (.ref D) = some true) : PySem.W.kitOne K (.ref C) (.ref D) = some b := by
  unfold PySem.W.kitOne
  by_cases h : (Value.ref C == Value.ref D) = true
  · rw [if_pos h]
    have e : Value.ref C = Value.ref D := by simpa using h
    rw [e, r] at s
    exact s
  · rw [if_neg h]
    obtain ⟨cd, hc, _⟩ := PySem.W.any_some hd
    show (if ((PySem.W.clsIn K D).isSome && PySem.W.typeIn K (.ref D) == some (.type "type")) = true then PySem.W.subIn K (.ref C) (.ref D) else none) = some b
    rw [if_pos (by rw [hc, tD] <;> rfl)]
    exact s
theorem kit_b {C : Addr} {T : String} {b : Bool} (hk : PySem.W.kitMeta T = true) (s : PySem.W.subIn K (.ref C) (.type T) = some b) : PySem.W.kitOne K (.ref C) (.type T) = some b := by
  unfold PySem.W.kitOne
  rw [if_neg (by simp)]
  show (if PySem.W.kitMeta T = true then PySem.W.subIn K (.ref C) (.type T) else none) = some b
  rw [if_pos hk]
  exact s
theorem row_x {x : Str} {C : Addr} (h : Ek K mg x C) : ∀ C', mg x = some (.ref C') → XfC K C' ∧ PySem.W.findIn K (.ref C') "word" = some none ∧ PySem.W.findIn K (.ref C') "place" = some none := fun C' h' => by
  rw [ek_only h h']
  exact ⟨h.xf, h.er.nW, h.er.nP⟩
end
theorem all_n {α : Type} {P : α → Prop} : ∀ x ∈ ([] : List α), P x := fun _ h => by cases h
theorem all_c {α : Type} {P : α → Prop} {a : α} {l : List α} (h : P a) (hs : ∀ x ∈ l, P x) : ∀ x ∈ a :: l, P x := fun x hx => by
  rcases List.mem_cons.mp hx with rfl | hx
  · exact h
  · exact hs x hx
end Dn

namespace Dn
open PySem L2

/-! ## 43. Errors evaluated -/
theorem sRaise0_a (x : Str) (e : Sl) : sRaise0 x e = some (.ex ⟨x, xfs x .non⟩ e) := nr rfl
theorem sRaise_a (x : Str) (f : M O) (e : Sl) : sRaise x f e = @thn' _ _ (f e) ⟨fun o e' => some (.ex ⟨x, xfs x o.d⟩ e')⟩ := by
  unfold sRaise items items M.bind M.pure
  cases f e with
  | none => rfl
  | some r => cases r <;> rfl
/-- where a body's error goes -/
def HandP (c : Str → Option Bool) (i : Nat) (h : Addr → Addr → Exn → M Fl) [Q : PostE Fl] [X : PostE Exn] (x : Exn) (e : Sl) : Prop := match c x.cls with
  | some true => ∃ r, Suits i h x e r ∧ @EvC _ (some r) Q X
  | some false => X.run x e
  | none => False
def HandT (i : Nat) (h : Addr → Addr → Exn → M Fl) [Q : PostE Fl] [X : PostE Exn] (x : Exn) (e : Sl) : Prop := ∃ r, Suits i h x e r ∧ @EvC _ (some r) Q X
theorem Suits.one {i : Nat} {h : Addr → Addr → Exn → M Fl} {x : Exn} {e : Sl} {r r' : Ro Fl} (a : Suits i h x e r) (b : Suits i h x e r') : r = r' := by
  have := (a 0 0).symm.trans (b 0 0)
  injection this
theorem Ev_sTry {c : Str → Option Bool} {i : Nat} {b : M Fl} {h : Addr → Addr → Exn → M Fl} {e : Sl} {Q : PostE Fl} {X : PostE Exn} :
    @EvC _ (sTry c i b h e) Q X = @EvC _ (b e) Q ⟨fun x e' => HandP c i h x e'⟩ := by
  unfold sTry
  cases b e with
  | none => rfl
  | some r =>
    cases r with
    | ok a e' => rfl
    | ex x e' =>
      show _ = HandP c i h x e'
      unfold HandP
      dsimp only
      cases c x.cls with
      | none => rfl
      | some t =>
        cases t with
        | false => rfl
        | true =>
          dsimp only
          refine propext ⟨fun z => ?_, fun ⟨r, s, z⟩ => ?_⟩
          · by_cases hh : ∃ r, Suits i h x e' r
            · rw [dif_pos hh] at z
              exact ⟨_, hh.choose_spec, z⟩
            · rw [dif_neg hh] at z; exact z.elim
          · have hh : ∃ r, Suits i h x e' r := ⟨r, s⟩
            rw [dif_pos hh, hh.choose_spec.one s]
            exact z
theorem HandP_t {c : Str → Option Bool} {i : Nat} {h : Addr → Addr → Exn → M Fl} {x : Str} {fs : List (Str × D)} {e : Sl} {Q : PostE Fl} {X : PostE Exn} (hc : c x = some true) : @HandP c i h Q X ⟨x, fs⟩ e = @HandT i h Q X ⟨x, fs⟩ e := by
  unfold HandP HandT
  dsimp only
  rw [hc]
theorem HandP_f {c : Str → Option Bool} {i : Nat} {h : Addr → Addr → Exn → M Fl} {x : Str} {fs : List (Str × D)} {e : Sl} {Q : PostE Fl} {X : PostE Exn} (hc : c x = some false) : @HandP c i h Q X ⟨x, fs⟩ e = X.run ⟨x, fs⟩ e := by
  unfold HandP
  dsimp only
  rw [hc]
theorem HandT.of {i : Nat} {h : Addr → Addr → Exn → M Fl} {x : Exn} {e : Sl} {Q : PostE Fl} {X : PostE Exn} (fl : Fl) (E : Sl)
    (hs : ∀ a d, Ev (h a d x (e.set i (some (.exn a d x)))) (fun fl' e' => fl' = fl ∧ e'.set i none = E) (fun _ _ => False)) (q : Q.run fl E) : @HandT i h Q X x e := by
  refine ⟨.ok fl E, fun a d => ?_, q⟩
  obtain ⟨fl', e', h1, rfl, rfl⟩ := (hs a d).get
  rw [h1]; rfl
theorem eXf_p {cs : List Str} {a d : Addr} {x : Str} {u : D} {i : Nat} {e : Sl} (hx : x ∈ cs) (hg : getO e i = some (.exn a d ⟨x, xfs x u⟩)) : eXf cs a d ⟨x, xfs x u⟩ i (PySem.Str.ofString "place") e = some (.ok (.fr u) e) := by
  have he : e[i]? = some (some (.exn a d ⟨x, xfs x u⟩)) := by
    unfold getO at hg
    split at hg
    · rename_i o ho; cases hg; exact ho
    · cases hg
  unfold eXf
  rw [if_pos hx, he]
  show (if a = a ∧ d = d then _ else _) = _
  rw [if_pos ⟨rfl, rfl⟩]
  rfl
theorem eXf_w {cs : List Str} {a d : Addr} {x : Str} {u : D} {i : Nat} {e : Sl} (hx : x ∈ cs) (hg : getO e i = some (.exn a d ⟨x, xfs x u⟩)) : eXf cs a d ⟨x, xfs x u⟩ i (PySem.Str.ofString "word") e = some (.ok (.fr (.str x)) e) := by
  have he : e[i]? = some (some (.exn a d ⟨x, xfs x u⟩)) := by
    unfold getO at hg
    split at hg
    · rename_i o ho; cases hg; exact ho
    · cases hg
  unfold eXf
  rw [if_pos hx, he]
  show (if a = a ∧ d = d then _ else _) = _
  rw [if_pos ⟨rfl, rfl⟩]
  rfl
theorem eXi_a {l : List (Str × Bool)} {a d : Addr} {x : Str} {fs : List (Str × D)} {i : Nat} {e : Sl} {b : Bool} (hx : isaL l x = some b) (hg : getO e i = some (.exn a d ⟨x, fs⟩)) : eXi (isaL l) a d ⟨x, fs⟩ i e = some (.ok (bO b) e) := by
  have he : e[i]? = some (some (.exn a d ⟨x, fs⟩)) := by
    unfold getO at hg
    split at hg
    · rename_i o ho; cases hg; exact ho
    · cases hg
  unfold eXi
  rw [he]
  show (if a = a ∧ d = d then _ else _) = _
  rw [if_pos ⟨rfl, rfl⟩]
  dsimp only
  rw [hx]
  rfl
end Dn

namespace Dn
open PySem L2
open Evl (Ex)

/-! ## 44. list.count of a text -/
def rCntS (K : PySem.W.Frag) : V → List V → Hp → VK → Prop := fun x xs H Q => ∃ (p : Addr) (ys : List Str) (k : Str), x = .ref p ∧ xs = [.str k] ∧ SqL K H p (ys.map V.str) ∧ Q (.int (ys.count k : Nat)) H
theorem countIn_c (k : Str) : ∀ ys : List Str, PySem.Spec.countIn (.str k) (ys.map PyData.str) = ((ys.count k : Nat) : Int)
  | [] => rfl
  | y :: ys => by
    have ih := countIn_c k ys
    rw [List.map_cons, PySem.Spec.countIn, ih, List.count_cons]
    simp only [PySem.Spec.same]
    rcases Bool.eq_false_or_eq_true (y == k) with hb | hb <;> simp only [hb, Bool.false_eq_true, if_true, if_false] <;> push_cast <;> omega
theorem strsAre_of : ∀ {ys : List Str} {its : List Value}, Vals (ys.map V.str) its → PyProof.Rows.StrsAre its ys
  | [], _, .nil => .nil
  | y :: ys, _, .cons h hs => by
    obtain ⟨t, rfl⟩ := h
    exact .cons _ _ (strsAre_of hs)
section
variable {X : Cx}
theorem mt_lcountS : MtR X "list.count" (rCntS X.K) := by
  intro pins s σ H x xs v us Q I rx rxs h
  obtain ⟨p, ys, k, rfl, rfl, hs, q⟩ := h
  cases rx
  obtain ⟨u, rfl, ru⟩ := rxs.one
  obtain ⟨t, rfl⟩ := ru
  obtain ⟨its, rv, hl, hlen⟩ := I.list hs
  refine PyProof.Rows.count_list_strs (vs := its) hl.isList (strsAre_of rv) ?_
  rw [countIn_c]
  exact ⟨.int (ys.count k : Nat), H, I.tok _, ⟨s.toks, rfl⟩, q⟩
end
def gLCount : List D → Option O
  | [.lst ds, .str k] => (strsD ds).map fun ys => iO (ys.count k : Nat)
  | _ => none
theorem strsD_of : ∀ {ds : List D} {ys : List Str}, strsD ds = some ys → ds = ys.map D.str
  | [], _, h => by cases h; rfl
  | d :: ds, ys, h => by
    cases d with
    | str b =>
      obtain ⟨zs, h1, rfl⟩ := Option.map_eq_some_iff.mp (show (strsD ds).map (b :: ·) = some ys from h)
      rw [strsD_of h1]; rfl
    | _ => cases h
theorem n_lcount {K : PySem.W.Frag} : SndM K (rCntS K) gLCount := fun B H x vs a ds o hx ha hr hg Q q => by
  unfold gLCount at hg
  split at hg
  · rename_i _ ls k e
    injection e with e1 e2
    subst e1 e2
    obtain ⟨ys, h1, rfl⟩ := Option.map_eq_some_iff.mp hg
    have e3 := strsD_of h1
    subst e3
    obtain ⟨p, xs, rfl, h2, h3⟩ := ha
    obtain ⟨y, rfl, h4⟩ := hr.one
    cases h4
    have e4 := repL_of_strs h3
    subst e4
    exact ⟨p, ys, k, rfl, rfl, Evl.sq_of h2, q.fr hx (.int _)⟩
  · cases hg
section
variable {X : Cx} {W : WX} {o e : Expr} {p q : P} {G : List D → Option O} {id : String} {name : Str} {apos pos : Pos} {r : V → List V → Hp → VK → Prop}
theorem d_lm1 (slot : Slot "list" name id) (ty : typeOf (.builtin id) = pure (.type "method_descriptor")) (rule : MtR X id r) (hs : SndM X.K r G) (ho : PE X o (tP X.K X.mg W p)) (he : PE X e (tP X.K X.mg W q))
    (hbase : attributeBase o name X.env (eval o X.env) = eval o X.env := by rfl)
    (hfew : ((backTo pos (starEach [e] X.env)).all (fun x => !x.1) && (backToKw pos (keywordEach [] X.env)).all (fun x => x.1.isSome)
      && decide (([e] : List Expr).length + ([] : List Keyword).length + (if ([] : List Keyword).isEmpty then 0 else 1) < 30)) = true := by rfl)
    (hline : (apos.endLine == pos.line) = true := by rfl) (hst : starEach [e] X.env = (false, eval e X.env) :: starEach [] X.env := by rfl) (hpl : (backTo pos (starEach [] X.env)).any (·.1) = false := by rfl) :
    PE X (.Call (.Attribute o name apos) [e] [] pos) (tE X.K X.mg W (apM isLst G p [q])) := pe_imp (pe_bm PySem.F.plainAttrs_list slot ty rule ho (pa_c he pa_n hst) hbase hfew hline hst hpl) fun σ H Q h => apM_run (fun B H v d _ h c => chk_lst h c) hs h
end
theorem gLCount_s {ys : List Str} {k : Str} : gLCount [.lst (ys.map D.str), .str k] = some (iO (ys.count k : Nat)) := by
  have : strsD (ys.map D.str) = some ys := by
    induction ys with
    | nil => rfl
    | cons y ys ih => show (strsD (ys.map D.str)).map (y :: ·) = _; rw [ih]; rfl
  show (strsD _).map _ = _
  rw [this]; rfl
end Dn

namespace Dn
open PySem L2
open Evl (Ex)

/-! ## 45. Dicts of one's own -/
/-- {} -/
def eDct0 : M O := M.pure (.dct [] [])
def hasK (ks : List L2.Key) (k : L2.Key) : Bool := ks.any fun j => decide (j = k)
def putKs (ks : List L2.Key) (k : L2.Key) : List L2.Key := if hasK ks k then ks else ks ++ [k]
def replX : List L2.Key → List D → L2.Key → D → List D
  | j :: ks, d :: ds, k, x => (if j = k then x else d) :: replX ks ds k x
  | _, _, _, _ => []
def putXs (ks : List L2.Key) (xs : List D) (k : L2.Key) (x : D) : List D := if hasK ks k then replX ks xs k x else xs ++ [x]
/-- d[k] = v, d a dict of one's own -/
def sSetK (i : Nat) (fk fv : M O) : M Fl := fv.bind fun o e1 => match e1[i]? with
  | some (some (.dct _ _)) => (fk.bind fun k e => match e[i]? with
    | some (some (.dct ks xs)) => (match keyD k.d with
      | some kk => if ks.length < sizeLine then some (.ok .next (e.set i (some (.dct (putKs ks kk) (putXs ks xs kk o.d))))) else none
      | none => none)
    | _ => none) e1
  | _ => none
section
variable {K : PySem.W.Frag} {mg : Str → Option Value} {W : WX} {B B' H H' : Hp} {v : V} {o : O} {σ σ' : St} {e e' : Sl} {S S' : Nat → Addr → Prop} {T T' : Addr → Prop}
theorem hasK_any (k : L2.Key) (kv : List (L2.Key × V)) : (kv.any fun p => decide (p.1 = k)) = hasK (kv.map (·.1)) k := by
  unfold hasK
  rw [List.any_map]; rfl
theorem putK_ks (k : L2.Key) (v : V) (kv : List (L2.Key × V)) : (putK kv k v).map (·.1) = putKs (kv.map (·.1)) k := by
  unfold putK putKs
  rw [hasK_any]
  cases hasK (kv.map (·.1)) k with
  | true =>
    rw [if_pos rfl, if_pos rfl, List.map_map]
    refine List.map_congr_left fun p _ => ?_
    show (if p.1 = k then (p.1, v) else p).1 = p.1
    split <;> rfl
  | false => rw [if_neg Bool.noConfusion, if_neg Bool.noConfusion, List.map_append]; rfl
theorem repl_rep (k : L2.Key) {v : V} {d : D} (hv : Rep K B v d) : ∀ {kv : List (L2.Key × V)} {ks : List L2.Key} {ds : List D}, kv.map (·.1) = ks → RepL K B (kv.map (·.2)) ds → RepL K B ((kv.map fun p => if p.1 = k then (p.1, v) else p).map (·.2)) (replX ks ds k d)
  | [], _, ds, h, hr => by
    cases h
    cases ds <;> exact .nil
  | p :: kv, [], _, h, _ => by cases h
  | p :: kv, j :: ks, [], _, hr => by cases hr
  | p :: kv, j :: ks, d' :: ds, h, hr => by
    rw [List.map_cons] at h hr
    injection h with h1 h2
    cases hr with
    | cons hd hr =>
      rw [List.map_cons, List.map_cons]
      unfold replX
      refine .cons ?_ (repl_rep k hv h2 hr)
      have h1' : p.1 = j := h1
      by_cases ej : j = k
      · rw [if_pos ej, if_pos (h1'.trans ej)]; exact hv
      · rw [if_neg ej, if_neg (fun z => ej (h1'.symm.trans z))]; exact hd
theorem putK_xs (k : L2.Key) {v : V} {d : D} (hv : Rep K B v d) {kv : List (L2.Key × V)} {ks : List L2.Key} {ds : List D} (h : kv.map (·.1) = ks) (hr : RepL K B (kv.map (·.2)) ds) : RepL K B ((putK kv k v).map (·.2)) (putXs ks ds k d) := by
  unfold putK putXs
  rw [hasK_any, h]
  cases hasK ks k with
  | true => rw [if_pos rfl, if_pos rfl]; exact repl_rep k hv h hr
  | false =>
    rw [if_neg Bool.noConfusion, if_neg Bool.noConfusion, List.map_append]
    exact hr.append (.cons hv .nil)
theorem Rp.mutD (r : Rp K B H σ e S) {i : Nat} {l : Addr} {kv kv' : List (L2.Key × V)} {ks ks' : List L2.Key} {ds ds' : List D} (he : e[i]? = some (some (.dct ks ds))) (hσ : σ[i]? = some (some (.ref l))) (hl : H l = some (.dK kv)) (hk : kv'.map (·.1) = ks') (hr : RepL K B (kv'.map (·.2)) ds') :
    Rp K B (L2.upd H l (.dK kv')) σ (e.set i (some (.dct ks' ds'))) S ∧ Fr B H (tot S) B (L2.upd H l (.dK kv')) (tot S) := by
  obtain ⟨v, hv, p, ys, e1, h2, hk2, h3, h4⟩ := r.rep i _ he
  rw [hσ] at hv; cases hv
  cases e1
  have hS : S i l := (h4 l).mpr rfl
  have hb := (r.own i l hS).1
  have hlen : i < e.length := (List.getElem?_eq_some_iff.mp he).1
  refine ⟨⟨by rw [List.length_set]; exact r.len, fun a o ha => ?_, fun j o ho => ?_, r.dis, fun j a ha => ⟨(r.own j a ha).1, ?_⟩⟩, Fr.upd hl ⟨i, hS⟩⟩
  · rw [upd_ne (fun z => by subst z; rw [hb] at ha; cases ha)]; exact r.ex a o ha
  · by_cases hj : j = i
    · subst hj
      rw [List.getElem?_set_self hlen] at ho
      cases ho
      exact ⟨_, hσ, l, kv', rfl, upd_same, hk, hr, h4⟩
    · rw [List.getElem?_set_ne (Ne.symm hj)] at ho
      obtain ⟨v, a1, a2⟩ := r.rep j o ho
      refine ⟨v, a1, ?_⟩
      cases o with
      | fr d => exact a2
      | lst es =>
        obtain ⟨q, zs, b1, b2, b3, b4⟩ := a2
        refine ⟨q, zs, b1, ?_, b3, b4⟩
        rw [upd_ne (fun z => by subst z; exact hj (r.dis j i q ((b4 q).mpr rfl) hS))]
        exact b2
      | dct es fs =>
        obtain ⟨q, zs, b1, b2, bk, b3, b4⟩ := a2
        refine ⟨q, zs, b1, ?_, bk, b3, b4⟩
        rw [upd_ne (fun z => by subst z; exact hj (r.dis j i q ((b4 q).mpr rfl) hS))]
        exact b2
      | ins c ns es =>
        obtain ⟨q, C, dx, zs, b1, b2, bc, bk, b3, b4⟩ := a2
        refine ⟨q, C, dx, zs, b1, ?_, bc, bk, b3, b4⟩
        rw [upd_ne (fun z => by subst z; exact hj (r.dis j i q ((b4 q).mpr rfl) hS))]
        exact b2
      | exn a d x => exact a2
      | tr t => exact RepT.frame (Ex.refl B) a2 fun a o z q => by rw [upd_ne (show a ≠ l from fun y => hj (r.dis j i a z (by rw [y]; exact hS)))]; exact q
  · by_cases hp : a = l
    · exact ⟨_, by rw [hp]; exact upd_same⟩
    · obtain ⟨_, o, h⟩ := r.own j a ha
      exact ⟨o, by rw [upd_ne hp]; exact h⟩
end
section
variable {X : Cx} {W : WX} {e k g2 : Expr} {pos p p2 : Pos} {f g h3 : M O} {q : P} {ks : List Nat} {i : Nat} {x : Str}
theorem d_dct0 : PE X (.Dict [] [] pos) (tE X.K X.mg W eDct0) := pe_imp pe_dnewK fun σ H Q h => by
  obtain ⟨B, e, S, r, h⟩ := h
  intro p hp
  have g := Gr.own r.ex hp (.dK [])
  refine (show ∀ v B' H' S' T, Vl X.K B' H' σ e S' v (.dct [] []) T → Fr B H (tot S) B' H' (fun a => T a ∨ tot S' a) → Q v H' from h) (.ref p) B _ S (fun a => a = p) ⟨r.grow g, ⟨p, [], rfl, upd_same, rfl, .nil, fun a => Iff.rfl⟩, fun a e => ?_, fun a e ⟨j, hj⟩ => ?_⟩ ⟨g.b, fun a o q _ => g.h a o q, fun a z => z.elim (fun z => .inr (by rw [z]; exact hp)) .inl, fun a u q => (g.c a u q).elim .inl fun z => .inr (.inr z), fun a u q => ⟨u, g.h a u q⟩⟩
  · subst e
    refine ⟨?_, _, upd_same⟩
    cases q : B a with
    | none => rfl
    | some u => have := r.ex a u q; rw [hp] at this; cases this
  · subst e
    obtain ⟨_, u, hu⟩ := r.own j a hj
    rw [hp] at hu; cases hu
def rSetDk : V → V → V → Hp → (Hp → Prop) → Prop := fun o i v H Q => ∃ p kv k, o = .ref p ∧ i = kV k ∧ H p = some (.dK kv) ∧ kv.length < sizeLine ∧ Q (L2.upd H p (.dK (putK kv k v)))
theorem set_dk (hu : X.A.units + 1 < cLine) : PSet X rSetDk := by
  intro pins s σ H o i v ov iv u Q I ro ri rv h
  obtain ⟨p, kv, k, rfl, rfl, hp, hl, q⟩ := h
  cases ro
  exact d_setItem hu I (DPut.k hp hl) ri rv fun s' I' => ⟨_, I', q⟩
theorem s_setK (hu : X.A.units + 64 < cLine) (hv : PE X (.Name x p) (tVar i)) (hk : PE X k (tE X.K X.mg W f)) (he : PE X e (tE X.K X.mg W g))
    (ha : ∀ v, assign (.Subscript (.Name x p) k p2) X.env v = (do
      let ov ← holding [v] (eval (.Name x p) X.env)
      let iv ← holding [v, ov] (eval k X.env)
      standAt p2
      holding [v, ov, iv] (setItem ov iv v)
      release [v, ov, iv] []) := by intro _; rfl)
    (hs : swapsWithSole [.Subscript (.Name x p) k p2] e pos.line X.env = pure false := by rfl) (hw : swappedStores [.Subscript (.Name x p) k p2] e X.env = pure none := by rfl)
    (h1 : (assignEach [.Subscript (.Name x p) k p2] X.env).map (·.2) = [assign (.Subscript (.Name x p) k p2) X.env] := by rfl) :
    PS X (.Assign [.Subscript (.Name x p) k p2] e pos) (tS X.K X.mg W ks (sSetK i f g)) := ps_imp (ps_asg he (pg_sub hv hk (set_dk (by omega)) ha) hs hw h1) fun D σ H h => by
  obtain ⟨B, e, S, r, h⟩ := h
  refine ⟨B, e, S, r, h.bind.imp (fun o e1 h v1 B1 H1 S1 T vl f1 => ?_) fun _ _ z => ExS.toE z⟩
  obtain ⟨B2, vl2, f2⟩ := vl.freeze
  have f3 := fz_fr f1 f2
  cases q : e1[i]? with
  | none => rw [q] at h; exact h.elim
  | some u =>
    cases u with
    | none => rw [q] at h; exact h.elim
    | some o1 =>
      rw [q] at h
      cases o1 with
      | fr d => exact h.elim
      | lst _ => exact h.elim
      | ins _ _ _ => exact h.elim
      | exn _ _ _ => exact h.elim
      | tr _ => exact h.elim
      | dct ks0 ds0 =>
        obtain ⟨v, hv, l, ys, ev, _, _, _, _⟩ := vl2.rp.rep i _ q
        subst ev
        refine ⟨_, hv, B2, e1, S1, vl2.rp, (show Post (M.bind f _ e1) _ _ from h).bind.imp (fun ko e2 h v2 B3 H3 S3 T3 vl3 f4 => ?_) fun x e2 z => ExS.toE (ExS.step z (Kp.refl _ _) f3)⟩
        cases q1 : e2[i]? with
        | none => rw [q1] at h; exact h.elim
        | some u1 =>
          cases u1 with
          | none => rw [q1] at h; exact h.elim
          | some o1 =>
            rw [q1] at h
            cases o1 with
            | fr d => exact h.elim
            | lst _ => exact h.elim
            | ins _ _ _ => exact h.elim
            | exn _ _ _ => exact h.elim
            | tr _ => exact h.elim
            | dct ks1 ds1 =>
              dsimp only at h
              cases hk : keyD ko.d with
              | none => rw [hk] at h; exact h.elim
              | some kk =>
                rw [hk] at h
                dsimp only at h
                by_cases hl : ks1.length < sizeLine
                · rw [if_pos hl] at h
                  obtain ⟨B4, vl4, f5⟩ := vl3.freeze
                  have f6 := fz_fr f4 f5
                  obtain ⟨v', hv', p', kv', e1', k2, kk2, k3, k4⟩ := vl4.rp.rep i _ q1
                  rw [hv] at hv'; cases hv'
                  cases e1'
                  obtain ⟨r5, f7⟩ := vl4.rp.mutD q1 hv k2 (kv' := putK kv' kk v1) (ks' := putKs ks1 kk) (by rw [putK_ks, kk2]) (putK_xs kk (vl2.ro.1.mono f6.b) kk2 k3)
                  exact ⟨_, kv', kk, rfl, keyD_v hk (vl4.ro.1.rd vl4.rp.ex), k2, by rw [← kk2, List.length_map] at hl; exact hl, (show Nd X.K D ks B H S σ .next _ from h) σ B4 _ S3 r5 (Kp.refl _ _) ((f3.trans f6).trans f7)⟩
                · rw [if_neg hl] at h; exact h.elim
/-! d.get(k), d.get(k, x) -/
def isDct : D → Bool
  | .dct _ _ => true
  | _ => false
def gGet1 : List D → Option O
  | [.dct ks xs, x] => (keyD x).map fun k => .fr ((getK ks xs k).getD .non)
  | _ => none
def gGet2 : List D → Option O
  | [.dct ks xs, x, y] => (keyD x).map fun k => match getK ks xs k with
    | some d => .fr d
    | none => .fr y
  | _ => none
theorem chk_dct {K : PySem.W.Frag} {H : Hp} {B : Hp} {v : V} {d : D} (h : Rd K B H v d) (hc : isDct d = true) : ∃ a, v = .ref a ∧ IsD H a := by
  cases d with
  | dct ks xs => obtain ⟨a, kv, rfl, h1, _⟩ := h; exact ⟨a, rfl, .inl ⟨kv, .inl h1⟩⟩
  | _ => cases hc
theorem getK_none {K : PySem.W.Frag} {B : Hp} {k : L2.Key} {kv : List (L2.Key × V)} {ks : List L2.Key} {ds : List D} (h : kv.map (·.1) = ks) (hr : RepL K B (kv.map (·.2)) ds) (e : getK ks ds k = none) : valV kv k = none := by
  have := getK_val (k := k) h hr
  rw [e] at this
  cases q : valV kv k with
  | none => rfl
  | some v => rw [q] at this; cases this
theorem n_get1 {K : PySem.W.Frag} : SndM K (fun x vs H Q => ∃ a y o, x = .ref a ∧ vs = [y] ∧ DGet H a y o ∧ Q (o.getD .non) H) gGet1 := fun B H x vs a ds o hx ha hr hg Q q => by
  unfold gGet1 at hg
  split at hg
  · rename_i h; cases h
    obtain ⟨k, hk, rfl⟩ := Option.map_eq_some_iff.mp hg
    obtain ⟨y, rfl, hy⟩ := hr.one
    obtain ⟨p, kv, rfl, h1, h2, h3⟩ := ha
    refine ⟨p, y, _, rfl, rfl, by rw [keyD_v hk hy]; exact DGet.k h1, ?_⟩
    rename_i ks xs _
    cases e : getK ks xs k with
    | none =>
      rw [getK_none h2 h3 e]
      rw [e] at q
      exact q.fr hx .non
    | some d =>
      obtain ⟨v, e1, e2⟩ := getK_rep h2 h3 e
      rw [e1]
      rw [e] at q
      exact q.fr hx e2
  · cases hg
def gGet2' : List D → Option O
  | [a, b, .int i] => gGet2 [a, b, .int i]
  | [a, b, .non] => gGet2 [a, b, .non]
  | _ => none
theorem n_get2 {K : PySem.W.Frag} : SndM K (fun x vs H Q => ∃ a y z o, x = .ref a ∧ vs = [y, z] ∧ DGet H a y o ∧ Q (o.getD z) H) gGet2' := fun B H x vs a ds o hx ha hr hg Q q => by
  have key : ∀ (b c : D), ds = [b, c] → gGet2 [a, b, c] = some o → (∀ u, Rd K B H u c → Rep K B u c) → ∃ a y z o, x = .ref a ∧ vs = [y, z] ∧ DGet H a y o ∧ Q (o.getD z) H := by
    intro b c e hg2 hc
    subst e
    unfold gGet2 at hg2
    split at hg2
    · rename_i ks xs b' c' h; cases h
      obtain ⟨k, hk, rfl⟩ := Option.map_eq_some_iff.mp hg2
      obtain ⟨y, z, rfl, hy, hz⟩ := RdL.two hr
      obtain ⟨p, kv, rfl, h1, h2, h3⟩ := ha
      refine ⟨p, y, z, _, rfl, rfl, by rw [keyD_v hk hy]; exact DGet.k h1, ?_⟩
      cases e : getK ks xs k with
      | none =>
        rw [getK_none h2 h3 e]
        rw [e] at q
        exact q.fr hx (hc _ hz)
      | some d =>
        obtain ⟨v, e1, e2⟩ := getK_rep h2 h3 e
        rw [e1]
        rw [e] at q
        exact q.fr hx e2
    · cases hg2
  unfold gGet2' at hg
  split at hg
  · rename_i h; cases h
    exact key _ _ rfl hg fun u hu => hu
  · rename_i h; cases h
    exact key _ _ rfl hg fun u hu => hu
  · cases hg
theorem tPs1 {K : PySem.W.Frag} {mg : Str → Option Value} {W : WX} {q : P} {σ : St} {H : Hp} {Q : List V → Hp → Prop} : tPs K mg W [q] σ H Q = tP K mg W q σ H fun y H2 => Q [y] H2 := rfl
theorem d_get1 {o e : Expr} {p q : P} {apos cpos : Pos} (hu : X.A.units + 64 < cLine) (ho : PE X o (tP X.K X.mg W p)) (he : PE X e (tP X.K X.mg W q)) (m : M1 X o "get" apos e cpos) :
    PE X (.Call (.Attribute o "get" apos) [e] [] cpos) (tE X.K X.mg W (apM isDct gGet1 p [q])) := pe_imp (pe_dget1 (by omega) ho he m) fun σ H Q h => by
  have := apM_run (C := fun v H => ∃ a, v = .ref a ∧ IsD H a) (fun B H v d _ h c => chk_dct h c) n_get1 h
  refine tP_mono _ _ _ _ _ (fun x H1 t => ?_) this
  obtain ⟨⟨a, rfl, hd⟩, t⟩ := t
  refine ⟨a, rfl, hd, ?_⟩
  refine tP_mono q _ _ _ _ (fun y H2 t => ?_) t
  obtain ⟨a', y', o, e1, e2, g, qq⟩ := t
  cases e1; cases e2
  exact ⟨o, g, qq⟩
theorem d_get2 {o e f : Expr} {p q r : P} {apos cpos : Pos} (hu : X.A.units + 64 < cLine) (ho : PE X o (tP X.K X.mg W p)) (he : PE X e (tP X.K X.mg W q)) (hf : PE X f (tP X.K X.mg W r)) (m : M2 X o "get" apos e f cpos) :
    PE X (.Call (.Attribute o "get" apos) [e, f] [] cpos) (tE X.K X.mg W (apM isDct gGet2' p [q, r])) := pe_imp (pe_dget2 (by omega) ho he hf m) fun σ H Q h => by
  have := apM_run (C := fun v H => ∃ a, v = .ref a ∧ IsD H a) (fun B H v d _ h c => chk_dct h c) n_get2 h
  refine tP_mono _ _ _ _ _ (fun x H1 t => ?_) this
  obtain ⟨⟨a, rfl, hd⟩, t⟩ := t
  refine ⟨a, rfl, hd, ?_⟩
  refine tP_mono q _ _ _ _ (fun y H2 t => ?_) t
  refine tP_mono r _ _ _ _ (fun z H3 t => ?_) t
  obtain ⟨a', y', z', o, e1, e2, g, qq⟩ := t
  cases e1; cases e2
  exact ⟨o, g, qq⟩
/-! a dict of the module, texts to whole numbers -/
def tabGet : List (Str × Int) → Str → Option Int
  | [], _ => none
  | (y, i) :: l, z => if y = z then some i else tabGet l z
structure KTab (K : PySem.W.Frag) (w : World) (mg : Str → Option Value) (x : Str) (l : List (Str × Int)) : Prop where
  ex : ∃ (a : Addr) (es : Array DictEntry) (n : Nat), mg x = some (.ref a) ∧ K.lookup a = some ⟨.type "dict", none, .dict es n, #[]⟩ ∧ PySem.W.KeysLit w.params es.toList ∧ (a == sysModules) = false ∧
    ∀ z, ∃ r, PySem.W.nsIn K a z = some r ∧ (match tabGet l z with
      | some i => ∃ t, r = some (.int i t)
      | none => r = none)
def gTab (l : List (Str × Int)) : List D → Option O
  | [.str z, .int j] => some (iO ((tabGet l z).getD j))
  | _ => none
theorem d_tabGet {l : List (Str × Int)} {x : Str} {e f : Expr} {p q : P} {apos cpos np : Pos} (T : KTab X.K X.w X.mg x l) (he : PE X e (tP X.K X.mg W p)) (hf : PE X f (tP X.K X.mg W q)) (m : M2 X (.Name x np) "get" apos e f cpos) (hg : Gl X x) (hdb : (x == ("__debug__" : Str)) = false := by decide) :
    PE X (.Call (.Attribute (.Name x np) "get" apos) [e, f] [] cpos) (tE X.K X.mg W (ap (gTab l) [p, q])) := by
  obtain ⟨a, es, n, hm, hl, hk, lo, hz⟩ := T.ex
  have hn : PE X (.Name x np) (tC (.ref a)) := pe_glob hg hm rfl hdb
  refine ⟨fun pins s σ H Q I h => ?_⟩
  have h2 := apN_run (K := X.K) (mg := X.mg) (W := W) (r := fun vs H Q => ∃ z j, vs = [.str z, .int j] ∧ Q (.int ((tabGet l z).getD j)) H) (g := gTab l) (ps := [p, q]) (fun B H vs ds o hx hr hg Q q => by
    unfold gTab at hg
    split at hg
    · cases hg
      obtain ⟨y, z, rfl, hy, hz⟩ := RdL.two hr
      cases hy; cases hz
      exact ⟨_, _, rfl, q.fr hx (.int _)⟩
    · cases hg) Q h
  refine wpAny_Call_method m.base m.few m.line PySem.F.plainAttrs_dict PySem.F.slot_dict_get PySem.F.type_dict_get (thn (hn.run pins s σ H _ I (show tC (.ref a) σ H fun x H1 => x = .ref a ∧ tPs X.K X.mg W [p, q] σ H1 fun vs H2 => ∃ z j, vs = [.str z, .int j] ∧ Q (.int ((tabGet l z).getD j)) H2 from ⟨rfl, h2⟩)) fun u s1 ⟨x, H1, I1, rx, ex, q1⟩ => ?_)
  subst ex
  obtain rfl : u = Value.ref a := rx
  have hm1 := PySem.W.mapOf_K (prog := X.prog) (w := X.w) I1.kIn hl hk
  refine ⟨hm1.typeIs, fun b q => ?_, ?_⟩
  · cases q
    obtain ⟨ob, _, _, h1, h2, _⟩ := hm1
    exact ⟨ob, h1, h2.2.1⟩
  rw [m.trees]
  refine Calls.callWith_builtin rfl (Calls.evalArgs_plain (Calls.spliced_cons (thn (he.run pins s1 σ H1 _ I1 q1) fun iv s2 ⟨y, H2, I2, ry, q2⟩ =>
    Calls.spliced_cons (thn (hf.run pins s2 σ H2 _ I2 q2) fun fv s3 ⟨zz, H3, I3, rz, z, j, ev, q3⟩ => Calls.spliced_nil ?_))))
  cases ev
  obtain ⟨t1, rfl⟩ := ry
  obtain ⟨t2, rfl⟩ := rz
  have hm3 := PySem.W.mapOf_K (prog := X.prog) (w := X.w) I3.kIn hl hk
  obtain ⟨r, hr, hr2⟩ := hz z
  refine call_meetsIn PySem.F.slot_dict_get hm3.typeIs PySem.F.entry_dict_get (PySem.F.args_dict_get_3 _ _ _) (meets_dict_get_default (strKind X.prog X.w) a (strKind_is X.prog X.w z t1) lo (.int j t2)) ⟨_, hm3, ?_⟩
  rw [PySem.W.find_K hl hr]
  cases e : tabGet l z with
  | none =>
    rw [e] at hr2 q3
    subst hr2
    exact ⟨.int j, H3, I3.tok _, ⟨t2, rfl⟩, q3⟩
  | some i =>
    rw [e] at hr2 q3
    obtain ⟨t3, rfl⟩ := hr2
    exact ⟨.int i, H3, I3.tok _, ⟨t3, rfl⟩, q3⟩
end
/-- the entries of a dict that the module has written -/
inductive TabE (P : Params) : List DictEntry → List (Str × Int) → Prop
  | nil : TabE P [] []
  | cons {e : DictEntry} {es : List DictEntry} {x : Str} {i : Int} {l : List (Str × Int)} : (∃ t, e.key = .str x t) → (∃ t, e.val = .int i t) → e.hash = PyData.keyHash P x → TabE P es l → TabE P (e :: es) ((x, i) :: l)
theorem TabE.lit {P : Params} : ∀ {es : List DictEntry} {l : List (Str × Int)}, TabE P es l → PySem.W.KeysLit P es
  | _, _, .nil => trivial
  | _, _, .cons ⟨t, h1⟩ _ h3 h4 => ⟨⟨_, t, h1, h3⟩, h4.lit⟩
theorem TabE.any {P : Params} : ∀ {es : List DictEntry} {l : List (Str × Int)}, TabE P es l → es.any (·.refKey) = false
  | _, _, .nil => rfl
  | _, _, .cons (e := e) ⟨t, h1⟩ _ h3 h4 => by
    rw [List.any_cons, h4.any, Bool.or_false]
    unfold DictEntry.refKey
    rw [h1]
theorem TabE.find {P : Params} (z : Str) : ∀ {es : List DictEntry} {l : List (Str × Int)}, TabE P es l → match tabGet l z with
    | some i => ∃ e t, es.find? (·.key.isStr z) = some e ∧ e.val = .int i t
    | none => es.find? (·.key.isStr z) = none
  | _, _, .nil => rfl
  | _, _, .cons (e := e) (x := x) (i := i) (l := l) (es := es) ⟨t, h1⟩ ⟨u, h2⟩ h3 h4 => by
    have hs : e.key.isStr z = decide (x = z) := by
      rw [h1]
      show (x == z) = _
      by_cases h : x = z
      · rw [decide_eq_true h]; exact beq_iff_eq.mpr h
      · rw [decide_eq_false h]; exact beq_eq_false_iff_ne.mpr h
    have ih := TabE.find z h4
    unfold tabGet
    by_cases h : x = z
    · rw [if_pos h]
      refine ⟨e, u, ?_, h2⟩
      rw [List.find?_cons, hs, decide_eq_true h]
    · rw [if_neg h]
      have e2 : (e :: es).find? (·.key.isStr z) = es.find? (·.key.isStr z) := by rw [List.find?_cons, hs, decide_eq_false h]
      rw [e2]
      exact ih
theorem ktab_mk {K : PySem.W.Frag} {w : World} {mg : Str → Option Value} {x : Str} {l : List (Str × Int)} {a : Addr} {es : Array DictEntry} {n : Nat} (hm : mg x = some (.ref a)) (hl : K.lookup a = some ⟨.type "dict", none, .dict es n, #[]⟩) (lo : (a == sysModules) = false) (hT : TabE w.params es.toList l) : KTab K w mg x l :=
  ⟨a, es, n, hm, hl, hT.lit, lo, fun z => by
    have h := hT.find z
    unfold PySem.W.nsIn
    rw [hl]
    dsimp only
    cases e : tabGet l z with
    | none =>
      rw [e] at h
      dsimp only at h ⊢
      rw [h]
      dsimp only
      rw [hT.any]
      exact ⟨none, rfl, rfl⟩
    | some i =>
      rw [e] at h
      obtain ⟨en, t, h1, h2⟩ := h
      rw [h1]
      exact ⟨some en.val, rfl, t, by rw [h2]⟩⟩
/-! evaluated -/
theorem eDct0_a (e : Sl) : eDct0 e = some (.ok (.dct [] []) e) := nr rfl
theorem gTab_q {l : List (Str × Int)} {z : Str} {j : Int} : gTab l [.str z, .int j] = some (iO ((tabGet l z).getD j)) := nr rfl
theorem gIx_ds {ks : List L2.Key} {xs : List D} {z : Str} : gIx [.dct ks xs, .str z] = (getK ks xs (.inr z)).map .fr := nr rfl
theorem gIx_di {ks : List L2.Key} {xs : List D} {i : Int} : gIx [.dct ks xs, .int i] = (getK ks xs (.inl i)).map .fr := nr rfl
theorem gIn_ds {ks : List L2.Key} {xs : List D} {z : Str} : gIn [.str z, .dct ks xs] = some (bO (getK ks xs (.inr z)).isSome) := nr rfl
theorem gNotIn_ds {ks : List L2.Key} {xs : List D} {z : Str} : gNotIn [.str z, .dct ks xs] = some (bO (!(getK ks xs (.inr z)).isSome)) := nr rfl
theorem gIn_di {ks : List L2.Key} {xs : List D} {i : Int} : gIn [.int i, .dct ks xs] = some (bO (getK ks xs (.inl i)).isSome) := nr rfl
theorem gNotIn_di {ks : List L2.Key} {xs : List D} {i : Int} : gNotIn [.int i, .dct ks xs] = some (bO (!(getK ks xs (.inl i)).isSome)) := nr rfl
theorem gGet1_s {ks : List L2.Key} {xs : List D} {z : Str} : gGet1 [.dct ks xs, .str z] = some (.fr ((getK ks xs (.inr z)).getD .non)) := nr rfl
theorem gGet1_i {ks : List L2.Key} {xs : List D} {i : Int} : gGet1 [.dct ks xs, .int i] = some (.fr ((getK ks xs (.inl i)).getD .non)) := nr rfl
theorem sSetK_a (i : Nat) (fk fv : M O) (e : Sl) : sSetK i fk fv e = @thn' _ _ (fv e) ⟨fun o e1 => (match getO e1 i with
    | some (.dct _ _) => @thn' _ _ (fk e1) ⟨fun k e2 => (match getO e2 i with
      | some (.dct ks xs) => (match keyD k.d with
        | some kk => if ks.length < sizeLine then some (.ok .next (e2.set i (some (.dct (putKs ks kk) (putXs ks xs kk o.d))))) else none
        | none => none)
      | _ => none)⟩
    | _ => none)⟩ := by
  unfold sSetK
  show @thn' _ _ (fv e) ⟨_⟩ = _
  refine thn_congr fun o e1 => ?_
  unfold getO
  cases e1[i]? with
  | none => rfl
  | some u => cases u with
    | none => rfl
    | some o => cases o with
      | dct _ _ =>
        show @thn' _ _ (fk e1) ⟨_⟩ = _
        refine thn_congr fun k e2 => ?_
        cases e2[i]? with
        | none => rfl
        | some u => cases u with
          | none => rfl
          | some o => cases o <;> rfl
      | _ => rfl
/-- a display {k: v, ..} of written keys -/
def dispL (ks : List L2.Key) (xs : List D) : List (L2.Key × D) → O
  | [] => .dct ks xs
  | (k, x) :: r => dispL (putKs ks k) (putXs ks xs k x) r
def eDisp (ns : List L2.Key) (fs : List (M O)) : M O := (items fs).bind fun ds => M.pure (dispL [] [] (ns.zip ds))
section
variable {K : PySem.W.Frag} {mg : Str → Option Value} {W : WX} {σ : St}
theorem pairs_run : ∀ (ns : List L2.Key) (fs : List (M O)) {B H : Hp} {e : Sl} {S : Nat → Addr → Prop} (Q : List (V × V) → Hp → Prop), ns.length = fs.length → Rp K B H σ e S →
    Post (items fs e) (fun ds e' => ∀ vs B' H' S', Rp K B' H' σ e' S' → RepL K B' vs ds → Fr B H (tot S) B' H' (tot S') → Q ((ns.zip vs).map fun p => (kV p.1, p.2)) H') (fun x e' => ExE K mg W B H S σ x e') →
    tPairs ((ns.zip fs).map fun p => (tC (kV p.1), tE K mg W p.2)) σ H Q
  | [], [], B, H, e, S, Q, _, r, h => h [] B H S r .nil (Fr.refl _ _ _)
  | [], _ :: _, _, _, _, _, _, hl, _, _ => by cases hl
  | _ :: _, [], _, _, _, _, _, hl, _, _ => by cases hl
  | n :: ns, f :: fs, B, H, e, S, Q, hl, r, h => by
    unfold items at h
    show tE K mg W f σ H _
    refine ⟨B, e, S, r, h.bind.imp (fun o e1 h v B1 H1 S1 T vl f1 => ?_) fun _ _ z => z⟩
    obtain ⟨B2, vl2, f2⟩ := vl.freeze
    have f3 : Fr B H (tot S) B2 H1 (tot S1) := f1.trans ⟨f2.b, fun a o q _ => q, fun a z => .inl (.inr z), fun a u q => (f2.c a u q).elim .inl fun z => .inr (z.elim (fun z => .inl (.inl z)) .inr), fun a o q => ⟨o, q⟩⟩
    refine pairs_run ns fs _ (by rw [List.length_cons, List.length_cons] at hl; omega) vl2.rp (h.bind.imp (fun ds e' h vs B' H' S' r' rl f4 => ?_) fun x e' z => z.step f3)
    have h' : ∀ vs B' H' S', Rp K B' H' σ e' S' → RepL K B' vs (o.d :: ds) → Fr B H (tot S) B' H' (tot S') → Q (((n :: ns).zip vs).map fun p => (kV p.1, p.2)) H' := h
    exact h' _ B' H' S' r' (.cons (vl2.ro.1.mono f4.b) rl) (f3.trans f4)
theorem merge_rep {B : Hp} : ∀ (ns : List L2.Key) (vs : List V) (ds : List D) (kv : List (L2.Key × V)) (ks : List L2.Key) (xs : List D), RepL K B vs ds → kv.map (·.1) = ks → RepL K B (kv.map (·.2)) xs →
    ∃ ks' xs', dispL ks xs (ns.zip ds) = .dct ks' xs' ∧ (mergeK kv (ns.zip vs)).map (·.1) = ks' ∧ RepL K B ((mergeK kv (ns.zip vs)).map (·.2)) xs'
  | [], vs, ds, kv, ks, xs, _, h1, h2 => ⟨ks, xs, rfl, h1, h2⟩
  | n :: ns, [], [], kv, ks, xs, _, h1, h2 => ⟨ks, xs, rfl, h1, h2⟩
  | n :: ns, [], _ :: _, _, _, _, h, _, _ => by cases h
  | n :: ns, _ :: _, [], _, _, _, h, _, _ => by cases h
  | n :: ns, v :: vs, d :: ds, kv, ks, xs, h, h1, h2 => by
    cases h with
    | cons hv hvs =>
      have := merge_rep ns vs ds (putK kv n v) (putKs ks n) (putXs ks xs n d) hvs (by rw [putK_ks, h1]) (putK_xs n hv h1 h2)
      exact this
end
section
variable {X : Cx} {W : WX} {pos : Pos}
theorem d_disp {keys : List (Option Expr)} {values : List Expr} {ns : List L2.Key} {fs : List (M O)} (h : PPs X pos keys values ((ns.zip fs).map fun p => (tC (kV p.1), tE X.K X.mg W p.2))) (hl : ns.length = fs.length) (h15 : ns.length ≤ 15) (hall : keys.all (·.isSome) = true := by rfl) (hlk : keys.length = values.length := by rfl) (h0 : keys ≠ [] := by (intro z; cases z)) (hk15 : keys.length ≤ 15 := by decide) :
    PE X (.Dict keys values pos) (tE X.K X.mg W (eDisp ns fs)) := pe_imp (pe_disp h hall hlk h0 hk15) fun σ H Q h => by
  obtain ⟨B, e, S, r, h⟩ := h
  intro p hp
  have g := Gr.own r.ex hp (.dK [])
  have hnS : ∀ a, tot S a → a ≠ p := fun a ⟨j, hj⟩ z => by
    subst z
    obtain ⟨_, u, hu⟩ := r.own j a hj
    rw [hp] at hu; cases hu
  have hBp : B p = none := by
    cases q : B p with
    | none => rfl
    | some u => have := r.ex p u q; rw [hp] at this; cases this
  refine pairs_run ns fs _ hl (r.grow g) ((post_len h.bind).imp (fun ds e' h vs B' H' S' r' rl f => ?_) fun x e' z => ?_)
  · obtain ⟨h, hlen⟩ := h
    have hp2 : H' p = some (.dK []) := f.k p _ upd_same fun z => hnS p z rfl
    have hpS : ∀ j, ¬ S' j p := fun j hj => by
      rcases f.n p ⟨j, hj⟩ with z | z
      · exact hnS p z rfl
      · rw [upd_same] at z; cases z
    have hBp' : B' p = none := by
      cases q : B' p with
      | none => rfl
      | some u =>
        rcases f.c p u q with z | z | z
        · rw [hBp] at z; cases z
        · exact absurd rfl (hnS p z)
        · rw [upd_same] at z; cases z
    refine ⟨hp2, ns.zip vs, rfl, by rw [List.length_zip]; omega, ?_⟩
    obtain ⟨ks', xs', e1, e2, e3⟩ := merge_rep ns vs ds [] [] [] rl rfl .nil
    have h' : ∀ v B' H' S' T, Vl X.K B' H' σ e' S' v (dispL [] [] (ns.zip ds)) T → Fr B H (tot S) B' H' (fun a => T a ∨ tot S' a) → Q v H' := h
    rw [e1] at h'
    have r2 : Rp X.K B' (L2.upd H' p (.dK (mergeK [] (ns.zip vs)))) σ e' S' := by
      refine ⟨r'.len, fun a o ha => ?_, fun i o ho => ?_, r'.dis, fun i a ha => ⟨(r'.own i a ha).1, ?_⟩⟩
      · rw [upd_ne (fun z => by subst z; rw [hBp'] at ha; cases ha)]; exact r'.ex a o ha
      · obtain ⟨v, a1, a2⟩ := r'.rep i o ho
        refine ⟨v, a1, ?_⟩
        cases o with
        | fr d => exact a2
        | lst es =>
          obtain ⟨q, zs, b1, b2, b3, b4⟩ := a2
          exact ⟨q, zs, b1, by rw [upd_ne (fun z => by subst z; exact hpS i ((b4 q).mpr rfl))]; exact b2, b3, b4⟩
        | dct es fs =>
          obtain ⟨q, zs, b1, b2, bk, b3, b4⟩ := a2
          exact ⟨q, zs, b1, by rw [upd_ne (fun z => by subst z; exact hpS i ((b4 q).mpr rfl))]; exact b2, bk, b3, b4⟩
        | ins c ns es =>
          obtain ⟨q, C, dx, zs, b1, b2, bc, bk, b3, b4⟩ := a2
          exact ⟨q, C, dx, zs, b1, by rw [upd_ne (fun z => by subst z; exact hpS i ((b4 q).mpr rfl))]; exact b2, bc, bk, b3, b4⟩
        | exn a d x => exact a2
        | tr t => exact RepT.frame (Ex.refl _) a2 fun a o z q => by rw [upd_ne (show a ≠ p from fun y => hpS i (by rw [← y]; exact z))]; exact q
      · obtain ⟨_, u, hu⟩ := r'.own i a ha
        exact ⟨u, by rw [upd_ne (fun z => by subst z; exact hpS i ha)]; exact hu⟩
    refine h' (.ref p) B' _ S' (fun a => a = p) ⟨r2, ⟨p, _, rfl, upd_same, e2, e3, fun a => Iff.rfl⟩, fun a ha => by subst ha; exact ⟨hBp', _, upd_same⟩, fun a ha ⟨j, hj⟩ => by subst ha; exact hpS j hj⟩ ?_
    refine ⟨f.b, fun a o ho hs => ?_, fun a ha => ?_, fun a u hu => ?_, fun a o ho => ?_⟩
    · have hne : a ≠ p := fun z => by subst z; rw [hp] at ho; cases ho
      rw [upd_ne hne]
      exact f.k a o (by rw [upd_ne hne]; exact ho) hs
    · rcases ha with ha | ha
      · exact .inr (by rw [ha]; exact hp)
      · rcases f.n a ha with z | z
        · exact .inl z
        · by_cases hne : a = p
          · subst hne; rw [upd_same] at z; cases z
          · rw [upd_ne hne] at z; exact .inr z
    · rcases f.c a u hu with z | z | z
      · exact .inl z
      · exact .inr (.inl z)
      · by_cases hne : a = p
        · subst hne; rw [upd_same] at z; cases z
        · rw [upd_ne hne] at z; exact .inr (.inr z)
    · have hne : a ≠ p := fun z => by subst z; rw [hp] at ho; cases ho
      obtain ⟨o', ho'⟩ := f.a a o (by rw [upd_ne hne]; exact ho)
      exact ⟨o', by rw [upd_ne hne]; exact ho'⟩
  · exact z.step (g.fr _)
/-- dict(d): a copy -/
def gDictC : List D → Option O
  | [.dct ks xs] => some (.dct ks xs)
  | _ => none
theorem call_dictC : CallR X (.type "dict") (fun vs H Q => ∃ a kv, vs = [.ref a] ∧ H a = some (.dK kv) ∧ ∀ p, H p = none → Q (.ref p) (L2.upd H p (.dK kv))) := by
  intro pins s σ H xs us Q I r h
  obtain ⟨a, kv, rfl, ha, q⟩ := h
  cases r with
  | cons r1 r2 =>
    cases r2
    cases r1
    exact d_copyOf I (.inl ha) fun p s' hp I' => ⟨.ref p, _, I', rfl, q p hp⟩
theorem n_dictC {K : PySem.W.Frag} : SndN K (fun vs H Q => ∃ a kv, vs = [.ref a] ∧ H a = some (.dK kv) ∧ ∀ p, H p = none → Q (.ref p) (L2.upd H p (.dK kv))) gDictC := fun B H vs ds o hx hr hg Q q => by
  unfold gDictC at hg
  split at hg
  · cases hg
    obtain ⟨v, rfl, h⟩ := hr.one
    obtain ⟨a, kv, rfl, h1, h2, h3⟩ := h
    refine ⟨a, kv, rfl, h1, fun p hp => ?_⟩
    have g := Gr.own hx hp (.dK kv)
    refine q (.ref p) B _ (fun a => a = p) g ⟨p, kv, rfl, upd_same, h2, h3, fun a => Iff.rfl⟩ (fun a e => by rw [e]; exact hp) fun a e => ?_
    subst e
    refine ⟨?_, _, upd_same⟩
    cases q : B a with
    | none => rfl
    | some u => have := hx a u q; rw [hp] at this; cases this
  · cases hg
end
theorem eDisp_a (ns : List L2.Key) (fs : List (M O)) (e : Sl) : eDisp ns fs e = @thn' _ _ (items fs e) ⟨fun ds e' => some (.ok (dispL [] [] (ns.zip ds)) e')⟩ := nr rfl
theorem gDictC_d {ks : List L2.Key} {xs : List D} : gDictC [.dct ks xs] = some (.dct ks xs) := nr rfl
theorem dispL_n {ks : List L2.Key} {xs : List D} : dispL ks xs [] = .dct ks xs := nr rfl
theorem dispL_c {ks : List L2.Key} {xs : List D} {k : L2.Key} {x : D} {r : List (L2.Key × D)} : dispL ks xs ((k, x) :: r) = dispL (putKs ks k) (putXs ks xs k x) r := nr rfl
theorem isDct_d {ks : List L2.Key} {xs : List D} : isDct (.dct ks xs) = true := nr rfl
end Dn
namespace Dn
theorem bt_dict : PySem.bootBuiltins "dict" = some (.type "dict") := by decide +kernel
end Dn

namespace Dn
open PySem L2
open Evl (Ex)

/-! ## 46. Instances of the program's classes -/
def getF : List Str → List D → Str → Option D
  | n :: ns, d :: ds, f => if n = f then some d else getF ns ds f
  | _, _, _ => none
def putFn : List Str → Str → List Str
  | [], f => [f]
  | n :: ns, f => if n = f then n :: ns else n :: putFn ns f
def putFx : List Str → List D → Str → D → List D
  | n :: ns, d :: ds, f, x => if n = f then x :: ds else d :: putFx ns ds f x
  | _, _, _, x => [x]
/-- e.f -/
def gFld (c f : Str) : List D → Option O
  | [.ins c' ns xs] => if c' = c then (getF ns xs f).map .fr else none
  | _ => none
/-- x.f = e, x an instance of one's own -/
def sSetF (c f : Str) (i : Nat) (g : M O) : M Fl := g.bind fun o e => match e[i]? with
  | some (some (.ins c' ns xs)) => if c' = c ∧ ns.length < 1000 then some (.ok .next (e.set i (some (.ins c' (putFn ns f) (putFx ns xs f o.d))))) else none
  | _ => none
structure FldC (K : PySem.W.Frag) (c : Str) (fs : List Str) : Prop where
  ok : ∀ C, ClsN K c C → Cls K C ∧ ∀ f ∈ fs, NoAttr K C f
theorem ClsN.one {K : PySem.W.Frag} {c : Str} {C C' : Addr} (h : ClsN K c C) (h' : ClsN K c C') : C = C' := by
  unfold ClsN at h h'
  rw [h] at h'
  injection h' with h'
  injection h' with h'
  injection h' with h'
section
variable {K : PySem.W.Frag} {mg : Str → Option Value} {W : WX} {B B' H H' : Hp} {v : V} {o : O} {σ σ' : St} {e e' : Sl} {S S' : Nat → Addr → Prop} {T T' : Addr → Prop}
theorem getF_rep {f : Str} {d : D} : ∀ {fs : List (Str × V)} {ns : List Str} {ds : List D}, fs.map (·.1) = ns → RepL K B (fs.map (·.2)) ds → getF ns ds f = some d → ∃ v, fs.lookup f = some v ∧ Rep K B v d
  | [], [], ds, _, _, e => by cases ds <;> cases e
  | p :: fs, [], _, h, _, _ => by cases h
  | [], _ :: _, _, h, _, _ => by cases h
  | (g, x) :: fs, n :: ns, d' :: ds, h, hr, e => by
    rw [List.map_cons] at h hr
    injection h with h1 h2
    cases hr with
    | cons hd hr =>
      unfold getF at e
      have h1' : g = n := h1
      by_cases ej : n = f
      · rw [if_pos ej] at e
        cases e
        refine ⟨x, ?_, hd⟩
        rw [List.lookup_cons, show (f == g) = true from beq_iff_eq.mpr (h1'.trans ej).symm]
      · rw [if_neg ej] at e
        obtain ⟨v, e1, e2⟩ := getF_rep h2 hr e
        refine ⟨v, ?_, e2⟩
        rw [List.lookup_cons, show (f == g) = false from beq_eq_false_iff_ne.mpr fun z => ej (h1'.symm.trans z.symm)]
        exact e1
  | p :: fs, n :: ns, [], _, hr, _ => by cases hr
theorem putF_ns (f : Str) (v : V) : ∀ fs : List (Str × V), (putF f v fs).map (·.1) = putFn (fs.map (·.1)) f
  | [] => rfl
  | (g, x) :: fs => by
    show (if g = f then (g, v) :: fs else (g, x) :: putF f v fs).map (·.1) = if g = f then g :: fs.map (·.1) else g :: putFn (fs.map (·.1)) f
    by_cases h : g = f
    · rw [if_pos h, if_pos h]; rfl
    · rw [if_neg h, if_neg h, List.map_cons, putF_ns f v fs]
theorem putF_xs (f : Str) {v : V} {d : D} (hv : Rep K B v d) : ∀ {fs : List (Str × V)} {ns : List Str} {ds : List D}, fs.map (·.1) = ns → RepL K B (fs.map (·.2)) ds → RepL K B ((putF f v fs).map (·.2)) (putFx ns ds f d)
  | [], [], [], _, _ => .cons hv .nil
  | [], [], _ :: _, _, h => by cases h
  | p :: fs, [], _, h, _ => by cases h
  | [], _ :: _, _, h, _ => by cases h
  | p :: fs, n :: ns, [], _, hr => by cases hr
  | (g, x) :: fs, n :: ns, d' :: ds, h, hr => by
    rw [List.map_cons] at h hr
    injection h with h1 h2
    cases hr with
    | cons hd hr =>
      have h1' : g = n := h1
      show RepL K B ((if g = f then (g, v) :: fs else (g, x) :: putF f v fs).map (·.2)) (if n = f then d :: ds else d' :: putFx ns ds f d)
      by_cases ej : n = f
      · rw [if_pos ej, if_pos (h1'.trans ej)]; exact .cons hv hr
      · rw [if_neg ej, if_neg (fun z => ej (h1'.symm.trans z))]; exact .cons hd (putF_xs f hv h2 hr)
theorem Rp.mutI (r : Rp K B H σ e S) {i : Nat} {l C dx : Addr} {c : Str} {fs fs' : List (Str × V)} {ns ns' : List Str} {ds ds' : List D} (he : e[i]? = some (some (.ins c ns ds))) (hσ : σ[i]? = some (some (.ref l))) (hl : H l = some (.ins C dx fs)) (hc : ClsN K c C) (hk : fs'.map (·.1) = ns') (hr : RepL K B (fs'.map (·.2)) ds') :
    Rp K B (L2.upd H l (.ins C dx fs')) σ (e.set i (some (.ins c ns' ds'))) S ∧ Fr B H (tot S) B (L2.upd H l (.ins C dx fs')) (tot S) := by
  obtain ⟨v, hv, p, C', dx', ys, e1, h2, hc2, hk2, h3, h4⟩ := r.rep i _ he
  rw [hσ] at hv; cases hv
  cases e1
  have hS : S i l := (h4 l).mpr rfl
  have hb := (r.own i l hS).1
  have hlen : i < e.length := (List.getElem?_eq_some_iff.mp he).1
  refine ⟨⟨by rw [List.length_set]; exact r.len, fun a o ha => ?_, fun j o ho => ?_, r.dis, fun j a ha => ⟨(r.own j a ha).1, ?_⟩⟩, Fr.upd hl ⟨i, hS⟩⟩
  · rw [upd_ne (fun z => by subst z; rw [hb] at ha; cases ha)]; exact r.ex a o ha
  · by_cases hj : j = i
    · subst hj
      rw [List.getElem?_set_self hlen] at ho
      cases ho
      exact ⟨_, hσ, l, C, dx, fs', rfl, upd_same, hc, hk, hr, h4⟩
    · rw [List.getElem?_set_ne (Ne.symm hj)] at ho
      obtain ⟨v, a1, a2⟩ := r.rep j o ho
      refine ⟨v, a1, ?_⟩
      cases o with
      | fr d => exact a2
      | lst es =>
        obtain ⟨q, zs, b1, b2, b3, b4⟩ := a2
        refine ⟨q, zs, b1, ?_, b3, b4⟩
        rw [upd_ne (fun z => by subst z; exact hj (r.dis j i q ((b4 q).mpr rfl) hS))]
        exact b2
      | dct es fs =>
        obtain ⟨q, zs, b1, b2, bk, b3, b4⟩ := a2
        refine ⟨q, zs, b1, ?_, bk, b3, b4⟩
        rw [upd_ne (fun z => by subst z; exact hj (r.dis j i q ((b4 q).mpr rfl) hS))]
        exact b2
      | ins c ns es =>
        obtain ⟨q, C, dx, zs, b1, b2, bc, bk, b3, b4⟩ := a2
        refine ⟨q, C, dx, zs, b1, ?_, bc, bk, b3, b4⟩
        rw [upd_ne (fun z => by subst z; exact hj (r.dis j i q ((b4 q).mpr rfl) hS))]
        exact b2
      | exn a d x => exact a2
      | tr t => exact RepT.frame (Ex.refl B) a2 fun a o z q => by rw [upd_ne (show a ≠ l from fun y => hj (r.dis j i a z (by rw [y]; exact hS)))]; exact q
  · by_cases hp : a = l
    · exact ⟨_, by rw [hp]; exact upd_same⟩
    · obtain ⟨_, o, h⟩ := r.own j a ha
      exact ⟨o, by rw [upd_ne hp]; exact h⟩
end
section
variable {X : Cx} {W : WX} {e : Expr} {pos pos' p : Pos} {f g : M O} {q : P} {ks : List Nat} {i : Nat} {x c fn : Str} {fs : List Str}
theorem d_fld (F : FldC X.K c fs) (hf : fn ∈ fs) (he : PE X e (tP X.K X.mg W q)) (hb : attributeBase e fn X.env (eval e X.env) = eval e X.env := by rfl) : PE X (.Attribute e fn pos) (tE X.K X.mg W (ap (gFld c fn) [q])) :=
  pe_imp (pe_fld he hb) fun σ H Q h => ap1_run (r := fun x H Q => ∃ a C dx fs v, x = .ref a ∧ H a = some (.ins C dx fs) ∧ Cls X.K C ∧ NoAttr X.K C fn ∧ fs.lookup fn = some v ∧ Q v H) (fun B H x a o hx hr hg Q q => by
    unfold gFld at hg
    split at hg
    · rename_i h; cases h
      split at hg
      · rename_i ec
        subst ec
        obtain ⟨d, e, rfl⟩ := Option.map_eq_some_iff.mp hg
        obtain ⟨p, C, dx, fs', rfl, h1, h2, h3, h4⟩ := hr
        obtain ⟨v, e1, e2⟩ := getF_rep h3 h4 e
        obtain ⟨k1, k2⟩ := F.ok C h2
        exact ⟨p, C, dx, fs', v, rfl, h1, k1, k2 _ hf, e1, q.fr hx e2⟩
      · cases hg
    · cases hg) Q h
theorem s_setF (F : FldC X.K c fs) (hf : fn ∈ fs) (hv : PE X (.Name x p) (tVar i)) (he : PE X e (tE X.K X.mg W g)) (hs : swapsWith e (some (.Attribute (.Name x p) fn pos')) pos.line X.env = pure false := by rfl) :
    PS X (.Assign [.Attribute (.Name x p) fn pos'] e pos) (tS X.K X.mg W ks (sSetF c fn i g)) := ps_imp (ps_fld hv he hs) fun D σ H h => by
  obtain ⟨B, e, S, r, h⟩ := h
  refine ⟨B, e, S, r, h.bind.imp (fun o e1 h9 v1 B1 H1 S1 T vl f1 => ?_) fun _ _ z => ExS.toE z⟩
  clear h
  obtain ⟨B2, vl2, f2⟩ := vl.freeze
  have f3 := fz_fr f1 f2
  cases q : e1[i]? with
  | none => rw [q] at h9; exact h9.elim
  | some u =>
    cases u with
    | none => rw [q] at h9; exact h9.elim
    | some o1 =>
      rw [q] at h9
      cases o1 with
      | fr d => exact h9.elim
      | lst _ => exact h9.elim
      | dct _ _ => exact h9.elim
      | exn _ _ _ => exact h9.elim
      | tr _ => exact h9.elim
      | ins c' ns xs =>
        dsimp only at h9
        by_cases hc : c' = c ∧ ns.length < 1000
        · rw [if_pos hc] at h9
          obtain ⟨rfl, hl⟩ := hc
          obtain ⟨v, hv, l, C, dx, fs', ev, k2, kc, kk, k3, k4⟩ := vl2.rp.rep i _ q
          subst ev
          obtain ⟨c1, c2⟩ := F.ok C kc
          obtain ⟨r5, f5⟩ := vl2.rp.mutI q hv k2 kc (fs' := putF fn v1 fs') (ns' := putFn ns fn) (by rw [putF_ns, kk]) (putF_xs fn vl2.ro.1 kk k3)
          exact ⟨_, hv, l, C, dx, fs', rfl, k2, c1, c2 _ hf, by rw [← kk, List.length_map] at hl; exact hl, (show Nd X.K D ks B H S σ .next _ from h9) σ B2 _ S1 r5 (Kp.refl _ _) (f3.trans f5)⟩
        · rw [if_neg hc] at h9; exact h9.elim
/-! ### C(e, ..): an instance that stays as its __init__ left it -/
def mkIns (c : Str) (F : Fn) : Fn := fun os => match F (.ins c [] [] :: os) with
  | some (.ok (.fr .non) (.ins c' ns xs :: os')) => some (.ok (.fr (.ins c' ns xs)) os')
  | some (.ex x (_ :: os')) => some (.ex x os')
  | _ => none
theorem spD_make {K : PySem.W.Frag} {mg : Str → Option Value} {n : Nat} {c : Str} {F : Fn} {C : Addr} {vs : List V} {H : Hp} {Q : VK} {E : XK} (hC : ClsN K c C) (h : spD K mg n (mkIns c F) vs H Q E) :
    ∀ x dx, H x = none → H dx = none → dx ≠ x → spD K mg (n + 1) F (.ref x :: vs) (L2.upd (L2.upd H dx (.own x)) x (.ins C dx [])) (fun v H2 => v = .non ∧ Q (.ref x) H2) E := by
  intro x dx hx hdx hne
  obtain ⟨hl, B, os, S, r, h⟩ := h
  have g1 := Gr.own r.ex hdx (.own x)
  have hx1 : (L2.upd H dx (.own x)) x = none := by rw [upd_ne (Ne.symm hne)]; exact hx
  have g2 := Gr.own (r.grow g1).ex hx1 (.ins C dx [])
  have r2 := (r.grow g1).grow g2
  have gg := g1.trans g2
  have hnS : ∀ i a, S i a → a ≠ x := fun i a hi z => by
    subst z
    obtain ⟨_, u, hu⟩ := r.own i a hi
    rw [hx] at hu; cases hu
  have hBx : B x = none := by
    cases q : B x with
    | none => rfl
    | some u => have := r.ex x u q; rw [hx] at this; cases this
  have r3 : Rp K B (L2.upd (L2.upd H dx (.own x)) x (.ins C dx [])) ((V.ref x :: vs).map some) ((O.ins c [] [] :: os).map some) (fun i a => match i with
      | 0 => a = x
      | i + 1 => S i a) := by
    refine ⟨?_, r2.ex, fun i o ho => ?_, fun i j a h1 h2 => ?_, fun i a h1 => ?_⟩
    · have := r.len
      rw [List.length_map, List.length_map] at this
      rw [List.length_map, List.length_map, List.length_cons, List.length_cons, this]
    · cases i with
      | zero =>
        have ho' : some (some (O.ins c [] [])) = some (some o) := ho
        cases ho'
        exact ⟨.ref x, rfl, x, C, dx, [], rfl, upd_same, hC, rfl, .nil, fun a => Iff.rfl⟩
      | succ i => exact r2.rep i o ho
    · cases i with
      | zero =>
        cases j with
        | zero => rfl
        | succ j => exact absurd h1 (hnS j a h2)
      | succ i =>
        cases j with
        | zero => exact absurd h2 (hnS i a h1)
        | succ j => rw [r.dis i j a h1 h2]
    · cases i with
      | zero =>
        have h1' : a = x := h1
        subst h1'
        exact ⟨hBx, _, upd_same⟩
      | succ i => exact r2.own i a h1
  refine ⟨by rw [List.length_cons, hl], B, _, _, r3, ?_⟩
  have fr0 : Fr B H (tot S) B (L2.upd (L2.upd H dx (.own x)) x (.ins C dx [])) (tot fun i a => match i with
      | 0 => a = x
      | i + 1 => S i a) := by
    refine ⟨gg.b, fun a o q _ => gg.h a o q, fun a ⟨i, z⟩ => ?_, fun a o q => (gg.c a o q).elim .inl fun z => .inr (.inr z), fun a o q => ⟨o, gg.h a o q⟩⟩
    cases i with
    | zero => exact .inr (by have z' : a = x := z; rw [z']; exact hx)
    | succ i => exact .inl ⟨i, z⟩
  unfold mkIns at h
  cases q : F (O.ins c [] [] :: os) with
  | none => rw [q] at h; exact h.elim
  | some rf =>
    rw [q] at h
    cases rf with
    | ex y os1 =>
      cases os1 with
      | nil => exact h.elim
      | cons o1 os' =>
        intro C' d fs B' H' S' lo hC' r' hd hf hdn f'
        have h' : ∀ (C d : Addr) (fs : List (Str × V)) (B' H' : Hp) (S' : Nat → Addr → Prop), os'.length = vs.length → mg y.cls = some (.ref C) → Rp K B' H' (vs.map some) (os'.map some) S' → H' d = some (.xd fs) → XF K B' fs y.fs → H d = none → Fr B H (tot S) B' H' (tot S') → E (.ref C) (some d) H' := h
        refine h' C' d fs B' H' (fun i => S' (i + 1)) (by rw [List.length_cons, List.length_cons] at lo; omega) hC' ⟨by have := r'.len; simpa using this, r'.ex, fun i o ho => r'.rep (i + 1) o ho, fun i j a h1 h2 => by have := r'.dis (i + 1) (j + 1) a h1 h2; omega, fun i a h1 => r'.own (i + 1) a h1⟩ hd hf (gg.fr (tot S) |>.back hdn) ?_
        exact (fr0.trans f').imp (fun _ z => z) fun a ⟨i, z⟩ => ⟨i + 1, z⟩
    | ok o1 os1 =>
      match o1, os1, h with
      | .fr .non, .ins c' ns xs :: os', h =>
        intro v B' H' S' T lo vl f'
        have h' : ∀ v B' H' S' T, os'.length = vs.length → Vl K B' H' (vs.map some) (os'.map some) S' v (.fr (.ins c' ns xs)) T → Fr B H (tot S) B' H' (fun a => T a ∨ tot S' a) → Q v H' := h
        have hv := vl.ro.1
        cases hv
        refine ⟨rfl, ?_⟩
        obtain ⟨B2, w, hw, rw2, rp2, f2⟩ := vl.rp.freeze (i := 0) (o := .ins c' ns xs) rfl
        have hw' : some (some (V.ref x)) = some (some w) := hw
        cases hw'
        refine h' (.ref x) B2 H' (fun i => if i + 1 = 0 then noS else S' (i + 1)) noS (by rw [List.length_cons, List.length_cons] at lo; omega) (.fr ⟨by have := rp2.len; simpa using this, rp2.ex, fun i o ho => rp2.rep (i + 1) o ho, fun i j a h1 h2 => by have := rp2.dis (i + 1) (j + 1) a h1 h2; omega, fun i a h1 => rp2.own (i + 1) a h1⟩ rw2) ?_
        refine ((fr0.trans (f'.imp (fun _ z => z) fun a z => .inr z)).trans f2).imp (fun _ z => z) fun a z => ?_
        rcases z with z | ⟨i, z⟩
        · exact z.elim
        · exact ⟨i + 1, z⟩
/-- a class of the module, by its name: what its __init__ makes of a new instance -/
structure ClM (P : Program) (w : World) (K : PySem.W.Frag) (mg : Str → Option Value) (base : Heap) (k : Nat) (x : Str) (n : Nat) (F : Fn) : Prop where
  ex : ∃ (C f : Addr) (fd : FuncData) (ps : List Str), ps.length = n + 1 ∧ FnOk P w K mg base (L2.CX P w) k f fd ps (spD K mg ps.length F) ∧ Mk K C f ∧ mg x = some (.ref C) ∧ ClsN K x C ∧ Binds K fd ps []
theorem run_makeSD {CX : CXT} {k : Nat} {f C : Addr} {fd : FuncData} {ps : List Str} {sp : Sp} {E : XK} {pins : List (Addr × Obj)} {σ : St} {H : Hp} {s : Shared} {Q : VK} {us : List Value} {vs : List V} (M : Mk X.K C f) (F : FnOk X.prog X.w X.K X.mg X.base CX k f fd ps sp) (hr : Room (k + 1) X.A) (hb : Binds X.K fd ps [])
    (hx : PassesAt CX X σ E) (I : Inv X pins σ H s) (r : Vals vs us)
    (h : ∀ x dx, H x = none → H dx = none → dx ≠ x → sp (.ref x :: vs) (L2.upd (L2.upd H dx (.own x)) x (.ins C dx [])) (fun v H2 => v = .non ∧ Q (.ref x) H2) E) :
    wpAny (model X.prog X.w) X.A (call (.ref C) us) (EP X pins σ Q) X.xe s := by
  have hq := h (s.heap.objs.size + 1) s.heap.objs.size (I.hok.fresh (Nat.le_succ _)) (I.hok.fresh (Nat.le_refl _)) (Nat.ne_of_lt (Nat.lt_succ_self _))
  have I2 := Inv.made (C := C) I
  have r2 : Vals (V.ref (s.heap.objs.size + 1) :: vs) (Value.ref (s.heap.objs.size + 1) :: us) := .cons rfl r
  have hl : (Value.ref (s.heap.objs.size + 1) :: us).length = ps.length := by
    have e := r2.length
    rw [F.len _ _ _ _ hq] at e
    exact e.symm
  refine wpAny_call (make_map (f := f) I.kIn M.makes M.init (beq_iff_eq.mp M.fn) (codeAny_mono (F.run _ X.stack _ _ ⟨Value.ref (s.heap.objs.size + 1) :: us, []⟩ (Value.ref (s.heap.objs.size + 1) :: us) _ _ E (hr.make C us [])
    (I2.env0.make C us []) (by have := hb _ (Value.ref (s.heap.objs.size + 1) :: us) I2.kIn (by rw [List.append_nil]; exact hl); rw [List.append_nil] at this; exact this) r2 hq) fun r s' hq' => ?_))
  cases r with
  | error e => exact hx pins _ _ e s' I2 hq'
  | ok fl =>
    cases fl with
    | ret u =>
      obtain ⟨v, H', I3, rv, ev, q3⟩ := I2.after hq'
      subst ev
      exact ⟨rv, ⟨V.ref (s.heap.objs.size + 1), H', I3, rfl, q3⟩⟩
    | next => exact False.elim hq'
    | brk => exact False.elim hq'
    | cont => exact False.elim hq'
theorem d_make {es : List Expr} {k j n : Nat} {F : Fn} {ps : List P} (C : ClM X.prog X.w X.K X.mg X.base k x n F) (hr : Room j X.A) (tk : Takes X W) (ha : PA X (e :: es) (tPs X.K X.mg W ps)) (hk : k + 1 ≤ j := by decide) (hg : Gl X x := by rfl) (hn : n = ps.length := by rfl) (nd : (bs ps).Nodup := by decide)
    (hdb : (x == ("__debug__" : Str)) = false := by decide) (he : starEach (e :: es) X.env = (false, eval e X.env) :: starEach es X.env := by rfl) (hpl : (backTo pos (starEach es X.env)).any (·.1) = false := by rfl) :
    PE X (.Call (.Name x p) (e :: es) [] pos) (tE X.K X.mg W (eCall (mkIns x F) ps [])) := by
  obtain ⟨C0, f, fd, pn, h0, h1, h2, h3, h4, h5⟩ := C.ex
  refine ⟨fun pins s σ H Q I h => ?_⟩
  have hc := call_core (X := X) (W := W) (n := n) (dvs := []) (dv := []) (F := mkIns x F) rfl (by rw [hn]; rfl) nd (fun _ => .nil) h
  refine wpAny_Call_Name_kw (ld_glob I hg h3 ?_ hdb)
  refine PySem.W.callWith_K (h₀ := X.base) I.ok.mod.kin h2.kp (thn (ha.run pos pins s σ H _ I hc) fun us s1 ⟨vs, H1, I1, r, q⟩ => ⟨I1.kIn, ?_⟩) he hpl
  have q1 : spD X.K X.mg n (mkIns x F) (vs ++ []) H1 Q (WE W σ) := q
  rw [List.append_nil] at q1
  have q' := spD_make h4 q1
  refine run_makeSD (E := WE W σ) h2 h1 (hr.mono hk) h5 (passAt tk σ) I1 r ?_
  rw [h0]
  exact q'
/-! ### e.f, a property -/
def ePrp (c : Str) (F : Fn) (f : M O) : M O := f.bind fun o e => match o.d with
  | .ins c' ns xs => if c' = c then (match F [.fr (.ins c' ns xs)] with
    | some (.ok r _) => some (.ok r e)
    | _ => none) else none
  | _ => none
structure PrpC (P : Program) (w : World) (K : PySem.W.Frag) (mg : Str → Option Value) (base : Heap) (k : Nat) (c f : Str) (F : Fn) : Prop where
  ex : ∃ (C p g : Addr) (fd : FuncData) (ps : List Str), ps.length = 1 ∧ ClsN K c C ∧ Cls K C ∧ PropOf K C f p g ∧ FnOk P w K mg base (L2.CX P w) k g fd ps (spD K mg ps.length F) ∧ Binds K fd ps []
theorem d_prp {k j : Nat} {F : Fn} (C : PrpC X.prog X.w X.K X.mg X.base k c fn F) (hr : Room j X.A) (he : PE X e (tE X.K X.mg W f)) (hk : k + 1 ≤ j := by decide) (hab : attributeBase e fn X.env (eval e X.env) = eval e X.env := by rfl) : PE X (.Attribute e fn pos) (tE X.K X.mg W (ePrp c F f)) := by
  obtain ⟨C0, p0, g0, fd, ps, h0, h1, h2, h3, h4, h5⟩ := C.ex
  refine pe_imp (pe_prop (E := fun _ _ _ => False) he h2 h3 h4 (hr.mono hk) h5 .nil (fun pins σ H s e s' I c => ?_) hab) fun σ H Q h => ?_
  · obtain ⟨_, _, _, _, _, _, _, _, _, _, _, _, z⟩ := c
    exact z.elim
  · obtain ⟨B, e, S, r, h⟩ := h
    refine ⟨B, e, S, r, h.bind.imp (fun o e1 h9 v B1 H1 S1 T vl f1 => ?_) fun _ _ z => z⟩
    clear h
    obtain ⟨B2, vl2, f2⟩ := vl.freeze
    have f3 := fz_fr f1 f2
    have hrep := vl2.ro.1
    cases hd : o.d with
    | ins c' ns xs =>
      rw [hd] at h9 hrep
      dsimp only at h9
      by_cases hc : c' = c
      · rw [if_pos hc] at h9
        subst hc
        cases hrep with
        | ins k1 k2 k3 k4 =>
          rename_i a dx C' fs'
          obtain rfl := k2.one h1
          refine ⟨a, dx, fs', rfl, vl2.rp.ex _ _ k1, ?_⟩
          rw [h0]
          refine ⟨rfl, B2, [.fr (.ins c' ns xs)], fun _ => noS, ⟨rfl, vl2.rp.ex, fun i o ho => ?_, fun _ _ _ z => z.elim, fun _ _ z => z.elim⟩, ?_⟩
          · cases i with
            | zero =>
              have ho' : some (some (O.fr (.ins c' ns xs))) = some (some o) := ho
              cases ho'
              exact ⟨.ref a, rfl, .ins k1 k2 k3 k4, fun _ z => z⟩
            | succ i => simp at ho
          · cases q : F [.fr (.ins c' ns xs)] with
            | none => rw [q] at h9; exact h9.elim
            | some rf =>
              rw [q] at h9
              cases rf with
              | ex y os' => exact h9.elim
              | ok ro os' =>
                intro v' B' H' S' T' lo vl' f'
                have h' : ∀ v B' H' S' T, Vl X.K B' H' σ e1 S' v ro T → Fr B H (tot S) B' H' (fun a => T a ∨ tot S' a) → Q v H' := h9
                have fno : Fr B2 H1 noS B' H' (fun a => T' a ∨ tot S' a) := f'.imp (fun a ⟨_, z⟩ => z) fun _ z => z
                have keep : ∀ a o, H1 a = some o → H' a = some o := fun a o hh => fno.k a o hh fun z => z
                have gr : Gr B2 H1 B' H' := ⟨fno.b, keep, vl'.rp.ex, fun a o hh => (fno.c a o hh).elim .inl fun z => z.elim (fun z => z.elim) .inr⟩
                refine h' v' B' H' S1 T' ⟨vl2.rp.grow gr, vl'.ro, vl'.own, fun a ha ⟨i, hi⟩ => ?_⟩ ?_
                · obtain ⟨_, u, hu⟩ := vl2.rp.own i a hi
                  rcases fno.n a (.inl ha) with z | z
                  · exact z
                  · rw [hu] at z; cases z
                · refine f3.trans ⟨gr.b, fun a o hh _ => gr.h a o hh, fun a z => z.elim (fun z => (fno.n a (.inl z)).elim (fun y => y.elim) .inr) .inl, fun a o hh => (gr.c a o hh).elim .inl fun z => .inr (.inr z), fun a o hh => ⟨o, gr.h a o hh⟩⟩
      · rw [if_neg hc] at h9; exact h9.elim
    | _ => rw [hd] at h9; exact h9.elim
end
end Dn

namespace Dn
open PySem L2
open Evl (Ex)

/-! ## 47. max of a list of whole numbers; str.rfind -/
def maxL : List Int → Option Int
  | [] => none
  | [n] => some n
  | n :: ns => match maxL ns with
    | some m => some (if n ≤ m then m else n)
    | none => none
theorem maxL_spec : ∀ {ns : List Int} {m : Int}, maxL ns = some m → m ∈ ns ∧ ∀ y ∈ ns, y ≤ m
  | [n], m, h => by
    have : some n = some m := h
    cases this
    exact ⟨.head _, fun y hy => by cases hy with
      | head => exact Int.le_refl _
      | tail _ h => cases h⟩
  | n :: n' :: ns, m, h => by
    unfold maxL at h
    cases q : maxL (n' :: ns) with
    | none => rw [q] at h; cases h
    | some k =>
      rw [q] at h
      obtain ⟨a, b⟩ := maxL_spec q
      injection h with h
      by_cases hk : n ≤ k
      · rw [if_pos hk] at h
        subst h
        refine ⟨.tail _ a, fun y hy => ?_⟩
        cases hy with
        | head => exact hk
        | tail _ hy => exact b y hy
      · rw [if_neg hk] at h
        subst h
        refine ⟨.head _, fun y hy => ?_⟩
        cases hy with
        | head => exact Int.le_refl _
        | tail _ hy => have := b y hy; omega
theorem maxL_mem {ns : List Int} {m k : Int} (h : maxL ns = some m) (h1 : k ∈ ns) (h2 : ∀ y ∈ ns, y ≤ k) : k = m := by
  obtain ⟨a, b⟩ := maxL_spec h
  have := b k h1; have := h2 m a; omega
theorem maxL_some : ∀ {ns : List Int}, ns ≠ [] → ∃ m, maxL ns = some m
  | [], h => (h rfl).elim
  | [n], _ => ⟨n, rfl⟩
  | n :: n' :: ns, _ => by
    obtain ⟨m, e⟩ := maxL_some (ns := n' :: ns) (by simp)
    exact ⟨_, by unfold maxL; rw [e]⟩
def gMax1 : List D → Option O
  | [.lst ds] => match intsD ds with
    | some ns => (maxL ns).map iO
    | none => none
  | _ => none
theorem n_max1 {K : PySem.W.Frag} : SndN K (rMax K) gMax1 := fun B H vs ds o hx hr hg Q q => by
  unfold gMax1 at hg
  split at hg
  · split at hg
    · rename_i ns e
      obtain ⟨m, em, rfl⟩ := Option.map_eq_some_iff.mp hg
      obtain ⟨v, rfl, h⟩ := hr.one
      obtain ⟨p, xs, rfl, h1, h2⟩ := h
      rw [intsD_map e] at h2
      rw [repL_of_ints h2] at h1
      refine ⟨_, _, rfl, Evl.sq_of h1, ?_, fun k k1 k2 => ?_⟩
      · cases ns with
        | nil => cases em
        | cons _ _ => exact Nat.succ_pos _
      · rw [maxL_mem em k1 k2]; exact q.fr hx (.int _)
    · cases hg
  · cases hg
theorem gMax1_ints {ns : List Int} {m : Int} (h : maxL ns = some m) : gMax1 [.lst (ns.map .int)] = some (iO m) := by
  have e : intsD (ns.map D.int) = some ns := by
    clear h
    induction ns with
    | nil => rfl
    | cons n ns ih =>
      show (intsD (ns.map D.int)).map (n :: ·) = _
      rw [ih]; rfl
  show (match intsD (ns.map D.int) with
    | some ns => (maxL ns).map iO
    | none => none) = _
  rw [e]
  show (maxL ns).map iO = _
  rw [h]; rfl
def gRfind : List D → Option O
  | [.str a, .str b] => some (iO (PySem.Txt.rfind a b))
  | _ => none
theorem n_rfind {K : PySem.W.Frag} : SndM K (fun x xs H Q => ∃ a b, x = .str a ∧ xs = [.str b] ∧ Q (.int (PySem.Txt.rfind a b)) H) gRfind := fun B H x vs a ds o hx hr hl hg Q q => by
  unfold gRfind at hg
  split at hg
  · rename_i h; cases h; cases hg; cases hr
    obtain ⟨v, rfl, rv⟩ := hl.one
    cases rv
    exact ⟨_, _, rfl, rfl, q.fr hx (.int _)⟩
  · cases hg
theorem gRfind_z {a b : Str} : gRfind [.str a, .str b] = some (iO (PySem.Txt.rfind a b)) := rfl
/-! evaluation -/
theorem gFld_e {c f : Str} {ns : List Str} {xs : List D} {d : D} (h : getF ns xs f = some d) : gFld c f [.ins c ns xs] = some (.fr d) := by
  show (if c = c then (getF ns xs f).map O.fr else none) = _
  rw [if_pos rfl, h]; rfl
theorem sSetF_a (c f : Str) (i : Nat) (g : M O) (e : Sl) : sSetF c f i g e = @thn' _ _ (g e) ⟨fun o e1 => (match getO e1 i with
    | some (.ins c' ns xs) => if c' = c ∧ ns.length < 1000 then some (.ok .next (e1.set i (some (.ins c' (putFn ns f) (putFx ns xs f o.d))))) else none
    | _ => none)⟩ := by
  unfold sSetF
  rw [bind_a]
  refine thn_congr fun o e1 => ?_
  unfold getO
  cases h : e1[i]? with
  | none => rfl
  | some u => cases u with
    | none => rfl
    | some o1 => cases o1 <;> rfl
def prpV (F : Fn) (c : Str) (d : D) : Option O := match d with
  | .ins c' ns xs => if c' = c then (match F [.fr (.ins c' ns xs)] with
    | some (.ok r _) => some r
    | _ => none) else none
  | _ => none
def prpR (e : Sl) : Option O → Option (Ro O)
  | some r => some (.ok r e)
  | none => none
theorem prpR_s {e : Sl} {r : O} : prpR e (some r) = some (.ok r e) := nr rfl
theorem ePrp_a (c : Str) (F : Fn) (f : M O) (e : Sl) : ePrp c F f e = @thn' _ _ (f e) ⟨fun o e' => prpR e' (prpV F c o.d)⟩ := by
  unfold ePrp
  rw [bind_a]
  refine thn_congr fun o e1 => ?_
  unfold prpV
  cases o.d with
  | ins c' ns xs =>
    dsimp only
    by_cases h : c' = c
    · rw [if_pos h, if_pos h]
      cases F [.fr (.ins c' ns xs)] with
      | none => rfl
      | some r => cases r <;> rfl
    · rw [if_neg h, if_neg h]; rfl
  | _ => rfl
theorem prpV_i {F : Fn} {c : Str} {ns : List Str} {xs : List D} {r : O} {os : List O} (h : F [.fr (.ins c ns xs)] = some (.ok r os)) : prpV F c (.ins c ns xs) = some r := by
  show (if c = c then (match F [.fr (.ins c ns xs)] with
    | some (.ok r _) => some r
    | _ => none) else none) = _
  rw [if_pos rfl, h]
theorem mkIns_i {F : Fn} {c c' : Str} {ns : List Str} {xs : List D} {os os' : List O} (h : F (.ins c [] [] :: os) = some (.ok (.fr .non) (.ins c' ns xs :: os'))) : mkIns c F os = some (.ok (.fr (.ins c' ns xs)) os') := by
  unfold mkIns; rw [h]
end Dn

namespace Dn
open PySem L2
open Evl (Ex)

/-! ## 48. A comprehension over two sources -/
def lc2L (own : List Nat) (tg : Tg) (t : M Bool) (vs1 : List Nat) (src1 : M (List D)) (tg1 : Tg) (t1 : M Bool) (f : M O) : List D → List D → Sl → Option (List D × Sl)
  | [], acc, e => some (acc, e)
  | d :: ds, acc, e => match tg.go d e with
    | none => none
    | some e1 => match t e1 with
      | some (.ok b e2) => if b then (match src1 e2 with
          | some (.ok ds1 e3) => (match lcL vs1 tg1 t1 f ds1 acc (wipeE e3 vs1) with
            | some (acc', e4) => lc2L own tg t vs1 src1 tg1 t1 f ds acc' (wipeE e4 own)
            | none => none)
          | _ => none) else lc2L own tg t vs1 src1 tg1 t1 f ds acc (wipeE e2 own)
      | _ => none
def eComp2 (own : List Nat) (src : M (List D)) (tg : Tg) (t : M Bool) (vs1 : List Nat) (src1 : M (List D)) (tg1 : Tg) (t1 : M Bool) (f : M O) : M O := src.bind fun ds e => match lc2L own tg t vs1 src1 tg1 t1 f ds [] (wipeE e own) with
  | some (acc, e') => some (.ok (.lst acc) (restE e e' own))
  | none => none
section
variable {J : It} {n : Nat} {G : Hp → Prop} {Y : Nat → Hp → V → Hp → Prop}
theorem wk_gen (w : Walk J n G Y) {body : V → Hp → (Hp → Prop) → Prop} {H0 : Hp} {Qd : Hp → Prop} (Pv : Nat → Hp → Prop) (h0 : Pv 0 H0) (hG : ∀ i H, i ≤ n → Pv i H → G H)
    (hs : ∀ i x H H', i < n → Pv i H → Y i H x H' → body x H' (Pv (i + 1))) (hd : ∀ H, Pv n H → Qd H) :
    ∃ W : Nat → Nat → Hp → Prop, (∃ m, W 0 m H0) ∧ ∀ i m H, W i m H →
      (J.stop i H ∧ Qd H) ∨ (J.go i H ∧ ∃ Nx : Hp → Prop, (∀ H', Nx H' → ∃ m', m' < m ∧ W (i + 1) m' H') ∧ ∀ x H', J.yld i H x H' → body x H' Nx) := by
  refine ⟨fun i m H => m = n - i ∧ i ≤ n ∧ Pv i H, ⟨n, by simp, Nat.zero_le _, h0⟩, ?_⟩
  rintro i m H ⟨rfl, hi, p⟩
  have q := hG i H hi p
  by_cases hlt : i < n
  · refine .inr ⟨w.goes i H hlt q, Pv (i + 1), fun H' p' => ⟨n - (i + 1), by omega, rfl, hlt, p'⟩, fun x H' y => hs i x H H' hlt p (w.yields i H x H' hlt q y)⟩
  · have e : i = n := by omega
    subst e
    exact .inl ⟨w.stops H q, hd H p⟩
end
section
variable {K : PySem.W.Frag} {mg : Str → Option Value} {W : WX} {B B' B2 H H' H2 : Hp} {v : V} {o : O} {σ σ' : St} {e e' : Sl} {S S' : Nat → Addr → Prop} {T T' : Addr → Prop}
theorem el_run {own : List Nat} {tg : Tg} {t : M Bool} {f : M O} {D : Addr} {acc ds : List Dn.D} {x : V} {d : Dn.D} {R : List Dn.D × Sl} {P : Hp → Prop} (hk : ∀ i ∈ tg.ix, i ∈ own) (vl : Vl K B' H' (L2.wipe σ own) e' S' (.ref D) (.lst acc) (fun a => a = D)) (gr : Gr B' H' B2 H2) (rv : Rep K B2 x d)
    (h' : lcL own tg t f (d :: ds) acc e' = some R)
    (hP : ∀ B'' H'' e'' S'' acc'', Vl K B'' H'' (L2.wipe σ own) e'' S'' (.ref D) (.lst acc'') (fun a => a = D) → Fr B' H' (fun a => a = D ∨ tot S' a) B'' H'' (fun a => a = D ∨ tot S'' a) → Ex B' B'' → lcL own tg t f ds acc'' e'' = some R → P H'') :
    tTg K tg x (L2.wipe σ own) H2 fun σ2 H2' => L2.wipe σ2 own = L2.wipe σ own ∧ tT K mg (fun _ _ _ _ => False) t σ2 H2' fun b H3 => if b = true then tE K mg (fun _ _ _ _ => False) f σ2 H3 fun y H4 => ∃ acc, H4 D = some (.lst acc) ∧ acc.length < sizeLine ∧ P (L2.upd H4 D (.lst (acc ++ [y]))) else P H3 := by
  unfold lcL at h'
  have r2 := vl.rp.grow gr
  have ro2 := vl.ro.grow gr
  have ow2 := vl.own.grow gr
  cases qt : tg.go d e' with
  | none => rw [qt] at h'; cases h'
  | some e2 =>
    rw [qt] at h'
    dsimp only at h'
    refine tg_run (ks := []) r2 rv qt (fun _ _ z => nomatch z) fun σ3 S3 r3 _ t3 n3 => ?_
    have wσ : L2.wipe σ3 own = L2.wipe σ own := by
      rw [← wipe_wipe σ own]
      exact wipe_eq (r3.len.trans ((go_len qt).trans r2.len.symm)) fun j hj => n3 j fun z => hj (hk j z)
    refine ⟨wσ, B2, e2, S3, r3, ?_⟩
    have dj3 : ∀ a, a = D → ¬ tot S3 a := fun a ha z => vl.dj a ha (t3 a z)
    have f3 : Fr B' H' (fun a => a = D ∨ tot S' a) B2 H2 (fun a => a = D ∨ tot S3 a) := (gr.fr _).imp (fun _ z => z) fun a z => z.elim .inl fun z => .inr (t3 a z)
    cases qc : t e2 with
    | none => rw [qc] at h'; cases h'
    | some rc =>
      rw [qc] at h'
      cases rc with
      | ex _ _ => cases h'
      | ok b e4 =>
        intro B4 H4 S4 r4 f4
        obtain ⟨ro4, ow4, dj4⟩ := ro2.frame ow2 dj3 f4
        have f34 := f3.trans (f4.both fun a => a = D)
        cases b with
        | false =>
          exact iteF (hP B4 H4 _ S4 acc ⟨by rw [← wσ]; exact r4.wipe own, ro4, ow4, dj4⟩ f34 (gr.b.trans f4.b) h')
        | true =>
          refine iteT ⟨B4, e4, S4, r4, ?_⟩
          cases qf : f e4 with
          | none => simp only [qf, if_true] at h'; cases h'
          | some rf =>
            simp only [qf, if_true] at h'
            cases rf with
            | ex _ _ => cases h'
            | ok o e5 =>
              intro y B5 H5 S5 T5 vl5 f5
              obtain ⟨B6, vl6, f6⟩ := vl5.freeze
              have f56 : Fr B4 H4 (tot S4) B6 H5 (tot S5) := f5.trans ⟨f6.b, fun a o q _ => q, fun a z => .inl (.inr z), fun a u q => (f6.c a u q).elim .inl fun z => .inr (z.elim (fun z => .inl (.inl z)) .inr), fun a o q => ⟨o, q⟩⟩
              obtain ⟨ro6, ow6, dj6⟩ := ro4.frame ow4 dj4 f56
              obtain ⟨p, xs, ep, hp, rl, hs⟩ := ro6
              cases ep
              dsimp only at h'
              split at h'
              · rename_i hlen
                refine ⟨xs, hp, by rw [rl.length]; exact hlen, hP B6 _ _ S5 _ ⟨?_, ⟨D, _, rfl, upd_same, rl.append (.one vl6.ro.1), fun a => Iff.rfl⟩, fun a ha => ⟨(ow6 a ha).1, by subst ha; exact ⟨_, upd_same⟩⟩, dj6⟩ ?_ (gr.b.trans (f4.b.trans f56.b)) h'⟩
                · rw [← wσ]
                  exact (vl6.rp.wipe own).upd (ow6 D rfl).1 fun i z => dj6 D rfl ⟨i, z⟩
                · exact (f34.trans (f56.both fun a => a = D)).trans (Fr.upd hp (.inl rfl))
              · cases h'
theorem wipe_sub {σ : St} {vs own : List Nat} (h : ∀ i ∈ vs, i ∈ own) : L2.wipe (L2.wipe σ vs) own = L2.wipe σ own :=
  wipe_eq (wipe_length σ vs) fun j hj => by rw [wipe_at, if_neg fun z => hj (h j z)]
theorem comp2_run {own vs1 : List Nat} {tg tg1 : Tg} {t t1 : M Bool} {f : M O} {src src1 : M (List D)} {Q : VK} (hk : ∀ i ∈ tg.ix, i ∈ own) (hk1 : ∀ i ∈ tg1.ix, i ∈ vs1) (hv : ∀ i ∈ vs1, i ∈ own) (h : tE K mg W (eComp2 own src tg t vs1 src1 tg1 t1 f) σ H Q) :
    tLc2 (tSrc K mg W src) (tTg K tg) (tT K mg (fun _ _ _ _ => False) t) (tSrc K mg (fun _ _ _ _ => False) src1) (tTg K tg1) (tT K mg (fun _ _ _ _ => False) t1) (tE K mg (fun _ _ _ _ => False) f) own vs1 σ H Q := by
  obtain ⟨B, e, S, r, h⟩ := h
  refine ⟨B, e, S, r, h.bind.imp (fun ds e1 h J B1 H1 S1 r1 f1 wd D hD => ?_) fun _ _ z => z⟩
  obtain ⟨G, Y, wk, hG, hY⟩ := wd
  cases q : lc2L own tg t vs1 src1 tg1 t1 f ds [] (wipeE e1 own) with
  | none => rw [q] at h; exact h.elim
  | some res =>
    obtain ⟨accF, eF⟩ := res
    rw [q] at h
    have h0 : ∀ v B' H' S' T, Vl K B' H' σ (restE e1 eF own) S' v (.lst accF) T → Fr B H (tot S) B' H' (fun a => T a ∨ tot S' a) → Q v H' := h
    have hbD : B1 D = none := by
      cases qd : B1 D with
      | none => rfl
      | some u => have := r1.ex D u qd; rw [hD] at this; cases this
    have hsD : ∀ i, ¬ S1 i D := fun i z => by
      obtain ⟨_, o, ho⟩ := r1.own i D z
      rw [hD] at ho; cases ho
    have own1 : Own B1 (L2.upd H1 D (.lst [])) (fun a => a = D) := fun a ha => by subst ha; exact ⟨hbD, _, upd_same⟩
    refine wk_gen wk (body := fun x H' Nx => tTg K tg x (L2.wipe σ own) H' fun σ2 H2 => L2.wipe σ2 own = L2.wipe σ own ∧ tT K mg (fun _ _ _ _ => False) t σ2 H2 fun b H3 =>
      if b = true then tSrc K mg (fun _ _ _ _ => False) src1 σ2 H3 fun J1 H4 => ∃ W1 : Nat → Nat → Hp → Prop, (∃ m, W1 0 m H4) ∧ ∀ j k H, W1 j k H →
        (J1.stop j H ∧ Nx H) ∨ (J1.go j H ∧ ∃ Nx1 : Hp → Prop, (∀ H', Nx1 H' → ∃ k', k' < k ∧ W1 (j + 1) k' H') ∧ ∀ x H', J1.yld j H x H' → tTg K tg1 x (L2.wipe σ2 vs1) H' fun σ3 H5 => L2.wipe σ3 vs1 = L2.wipe σ2 vs1 ∧ tT K mg (fun _ _ _ _ => False) t1 σ3 H5 fun b H6 =>
          if b = true then tE K mg (fun _ _ _ _ => False) f σ3 H6 fun y H7 => ∃ acc, H7 D = some (.lst acc) ∧ acc.length < sizeLine ∧ Nx1 (L2.upd H7 D (.lst (acc ++ [y]))) else Nx1 H6)
      else Nx H3)
      (fun i H' => ∃ B' e' S' acc, Vl K B' H' (L2.wipe σ own) e' S' (.ref D) (.lst acc) (fun a => a = D) ∧ Fr B H (tot S) B' H' (fun a => a = D ∨ tot S' a) ∧ Ex B1 B' ∧ lc2L own tg t vs1 src1 tg1 t1 f (ds.drop i) acc e' = some (accF, eF))
      ⟨B1, wipeE e1 own, S1, [], ⟨(r1.upd hbD hsD).wipe own, ⟨D, [], rfl, upd_same, .nil, fun a => Iff.rfl⟩, own1, fun a ha ⟨i, z⟩ => hsD i (ha ▸ z)⟩, ?_, Ex.refl _, by rw [List.drop_zero]; exact q⟩
      (fun i H' hi ⟨B', e', S', acc, vl, f', x', h'⟩ => hG _ (x'.trans vl.rp.ex)) (fun i x H' H2 hi ⟨B', e', S', acc, vl, f', x', h'⟩ hy => ?_) fun H' ⟨B', e', S', acc, vl, f', x', h'⟩ => ?_
    · refine f1.trans ⟨Ex.refl _, fun a o ha _ => ?_, fun a z => z.elim (fun z => .inr (by rw [z]; exact hD)) .inl, fun _ _ z => .inl z, fun a o ha => ⟨o, ?_⟩⟩
      · rw [upd_ne (ne_of_none ha hD)]; exact ha
      · rw [upd_ne (ne_of_none ha hD)]; exact ha
    · obtain ⟨B2, d, gr, hd, rv⟩ := hY i H' x H2 B' hi x' vl.rp.ex hy
      have ed : ds.drop i = d :: ds.drop (i + 1) := by
        rw [List.drop_eq_getElem_cons hi]
        rw [List.getElem?_eq_getElem hi] at hd
        cases hd
        rfl
      rw [ed] at h'
      unfold lc2L at h'
      have r2 := vl.rp.grow gr
      have ro2 := vl.ro.grow gr
      have ow2 := vl.own.grow gr
      cases qt : tg.go d e' with
      | none => rw [qt] at h'; cases h'
      | some e2 =>
        rw [qt] at h'
        dsimp only at h'
        refine tg_run (ks := []) r2 rv qt (fun _ _ z => nomatch z) fun σ3 S3 r3 _ t3 n3 => ?_
        have wσ : L2.wipe σ3 own = L2.wipe σ own := by
          rw [← wipe_wipe σ own]
          exact wipe_eq (r3.len.trans ((go_len qt).trans r2.len.symm)) fun j hj => n3 j fun z => hj (hk j z)
        refine ⟨wσ, B2, e2, S3, r3, ?_⟩
        have dj3 : ∀ a, a = D → ¬ tot S3 a := fun a ha z => vl.dj a ha (t3 a z)
        have f3 : Fr B H (tot S) B2 H2 (fun a => a = D ∨ tot S3 a) := (f'.trans (gr.fr _)).imp (fun _ z => z) fun a z => z.elim .inl fun z => .inr (t3 a z)
        cases qc : t e2 with
        | none => rw [qc] at h'; cases h'
        | some rc =>
          rw [qc] at h'
          cases rc with
          | ex _ _ => cases h'
          | ok b e4 =>
            intro B4 H4 S4 r4 f4
            obtain ⟨ro4, ow4, dj4⟩ := ro2.frame ow2 dj3 f4
            have f34 := f3.trans (f4.both fun a => a = D)
            cases b with
            | false =>
              exact iteF ⟨B4, _, S4, acc, ⟨by rw [← wσ]; exact r4.wipe own, ro4, ow4, dj4⟩, f34, (x'.trans gr.b).trans f4.b, h'⟩
            | true =>
              refine iteT ⟨B4, e4, S4, r4, ?_⟩
              cases qs : src1 e4 with
              | none => simp only [qs, if_true] at h'; cases h'
              | some rs =>
                simp only [qs, if_true] at h'
                cases rs with
                | ex _ _ => cases h'
                | ok ds1 e5 =>
                  dsimp only at h'
                  intro J1 B5 H5 S5 r5 f5 wd1
                  obtain ⟨G1, Y1, wk1, hG1, hY1⟩ := wd1
                  obtain ⟨ro5, ow5, dj5⟩ := ro4.frame ow4 dj4 f5
                  have f45 := f34.trans (f5.both fun a => a = D)
                  cases ql : lcL vs1 tg1 t1 f ds1 acc (wipeE e5 vs1) with
                  | none => rw [ql] at h'; cases h'
                  | some r6 =>
                    obtain ⟨acc4, e6⟩ := r6
                    rw [ql] at h'
                    dsimp only at h'
                    refine wk_gen wk1 (body := fun x H' Nx1 => tTg K tg1 x (L2.wipe σ3 vs1) H' fun σ4 H5 => L2.wipe σ4 vs1 = L2.wipe σ3 vs1 ∧ tT K mg (fun _ _ _ _ => False) t1 σ4 H5 fun b H6 =>
                        if b = true then tE K mg (fun _ _ _ _ => False) f σ4 H6 fun y H7 => ∃ acc, H7 D = some (.lst acc) ∧ acc.length < sizeLine ∧ Nx1 (L2.upd H7 D (.lst (acc ++ [y]))) else Nx1 H6)
                      (fun j H' => ∃ B' e' S' acc, Vl K B' H' (L2.wipe σ3 vs1) e' S' (.ref D) (.lst acc) (fun a => a = D) ∧ Fr B H (tot S) B' H' (fun a => a = D ∨ tot S' a) ∧ Ex B5 B' ∧ lcL vs1 tg1 t1 f (ds1.drop j) acc e' = some (acc4, e6))
                      ⟨B5, wipeE e5 vs1, S5, acc, ⟨r5.wipe vs1, ro5, ow5, dj5⟩, f45, Ex.refl _, by rw [List.drop_zero]; exact ql⟩
                      (fun j H' hj ⟨B', e', S', acc, vl, f', x', h'⟩ => hG1 _ (x'.trans vl.rp.ex)) (fun j x H' H2 hj ⟨B', e', S', acc, vl, f7, x7, h7⟩ hy => ?_) fun H' ⟨B', e', S', acc', vl, f7, x7, h7⟩ => ?_
                    · obtain ⟨B7, d1, gr1, hd1, rv1⟩ := hY1 j H' x H2 B' hj x7 vl.rp.ex hy
                      have ed1 : ds1.drop j = d1 :: ds1.drop (j + 1) := by
                        rw [List.drop_eq_getElem_cons hj]
                        rw [List.getElem?_eq_getElem hj] at hd1
                        cases hd1
                        rfl
                      rw [ed1] at h7
                      exact el_run hk1 vl gr1 rv1 h7 fun B'' H'' e'' S'' acc'' vl8 f8 x8 h8 => ⟨B'', e'', S'', acc'', vl8, f7.trans f8, x7.trans x8, h8⟩
                    · rw [List.drop_length] at h7
                      have h8 : some (acc', e') = some (acc4, e6) := h7
                      obtain ⟨a1, a2⟩ : acc' = acc4 ∧ e' = e6 := by injection h8 with h8; injection h8 with a b; exact ⟨a, b⟩
                      rw [← a1, ← a2] at h'
                      refine ⟨B', wipeE e' own, S', acc', ⟨?_, vl.ro, vl.own, vl.dj⟩, f7, ((x'.trans gr.b).trans f4.b).trans (f5.b.trans x7), h'⟩
                      have := vl.rp.wipe own
                      rw [wipe_sub hv, wσ] at this
                      exact this
    · rw [List.drop_length] at h'
      have h2 : some (acc, e') = some (accF, eF) := h'
      cases h2
      refine h0 (.ref D) B' H' (fun j => if j ∈ own then noS else S' j) (fun a => a = D) ⟨⟨by rw [restE_len, ← vl.rp.len, wipe_length], vl.rp.ex, fun j o ho => ?_, fun i j a h1 h2 => ?_, fun j a h1 => ?_⟩, vl.ro, vl.own, fun a ha ⟨j, z⟩ => ?_⟩ (f'.imp (fun _ z => z) fun a z => z.elim .inl fun ⟨j, z⟩ => ?_)
      · have hin : ∀ o, eF[j]? = some (some o) → j ∉ own := fun o ho hj => by
          obtain ⟨v, hv, _⟩ := vl.rp.rep j o ho
          rw [wipe_at, if_pos hj] at hv
          cases qq : σ[j]? with
          | none => rw [qq] at hv; cases hv
          | some u => rw [qq] at hv; cases hv
        rcases restE_at ho with ⟨a, b, d, rfl⟩ | a
        · obtain ⟨v, hv, ro⟩ := r1.rep j _ b
          exact ⟨v, hv, by rw [if_pos a]; exact ⟨ro.1.mono x', fun _ z => z⟩⟩
        · obtain ⟨v, hv, ro⟩ := vl.rp.rep j o a
          have hj := hin o a
          rw [wipe_at, if_neg hj] at hv
          exact ⟨v, hv, by rw [if_neg hj]; exact ro⟩
      · skip
        by_cases hi : i ∈ own
        · rw [if_pos hi] at h1; exact h1.elim
        · by_cases hj : j ∈ own
          · rw [if_pos hj] at h2; exact h2.elim
          · rw [if_neg hi] at h1; rw [if_neg hj] at h2; exact vl.rp.dis i j a h1 h2
      · skip
        by_cases hj : j ∈ own
        · rw [if_pos hj] at h1; exact h1.elim
        · rw [if_neg hj] at h1; exact vl.rp.own j a h1
      · dsimp only at z
        by_cases hj : j ∈ own
        · rw [if_pos hj] at z; exact z.elim
        · rw [if_neg hj] at z; exact vl.dj a ha ⟨j, z⟩
      · dsimp only at z
        by_cases hj : j ∈ own
        · rw [if_pos hj] at z; exact z.elim
        · rw [if_neg hj] at z; exact .inr ⟨j, z⟩
end
section
variable {X : Cx} {W : WX}
theorem d_comp2 {elt tgt iter tgt1 iter1 : Expr} {ifs ifs1 : List Expr} {scope : Scope} {own : List (Str × Nat)} {vs1 : List Nat} {pos : Pos} {src src1 : M (List D)} {tg tg1 : Tg} {t t1 : M Bool} {f : M O} (hc : X.calm = true) (hN : X.N.Nodup) (hi : PI X tgt iter (tSrc X.K X.mg W src)) (ok : BlkOk X.N X.env.scope scope own)
    (hg : ∀ (s : Shared) (H : Hp) (C : Addr) (cl : List (Str × Addr)) (fp : List Addr), PG (X.blk s H scope (compEnvC scope cl C X.env) fp) tgt (tTg X.K tg)) (ht : ∀ (s : Shared) (H : Hp) (C : Addr) (cl : List (Str × Addr)) (fp : List Addr), PTs (X.blk s H scope (compEnvC scope cl C X.env) fp) ifs (tT X.K X.mg WF t))
    (hi1 : ∀ (s : Shared) (H : Hp) (C : Addr) (cl : List (Str × Addr)) (fp : List Addr), PI (X.blk s H scope (compEnvC scope cl C X.env) fp) tgt1 iter1 (tSrc X.K X.mg WF src1))
    (hg1 : ∀ (s : Shared) (H : Hp) (C : Addr) (cl : List (Str × Addr)) (fp : List Addr), PG (X.blk s H scope (compEnvC scope cl C X.env) fp) tgt1 (tTg X.K tg1)) (ht1 : ∀ (s : Shared) (H : Hp) (C : Addr) (cl : List (Str × Addr)) (fp : List Addr), PTs (X.blk s H scope (compEnvC scope cl C X.env) fp) ifs1 (tT X.K X.mg WF t1))
    (he : ∀ (s : Shared) (H : Hp) (C : Addr) (cl : List (Str × Addr)) (fp : List Addr), PE (X.blk s H scope (compEnvC scope cl C X.env) fp) elt (tE X.K X.mg WF f)) (hk : ∀ i ∈ tg.ix, i ∈ own.map (·.2)) (hk1 : ∀ i ∈ tg1.ix, i ∈ vs1) (hv : ∀ i ∈ vs1, i ∈ own.map (·.2)) (hs : ∀ x, foldedSetIterable iter X.env x = pure x := by intro _; rfl) (hs1 : ∀ env x, foldedSetIterable iter1 env x = pure x := by intro _ _; rfl) :
    PE X (.ListComp elt [⟨tgt, iter, ifs, 0⟩, ⟨tgt1, iter1, ifs1, 0⟩] scope pos) (tE X.K X.mg W (eComp2 (own.map (·.2)) src tg t vs1 src1 tg1 t1 f)) := pe_imp (pe_lc2 hc hN hi ok hv hg ht hi1 hg1 ht1 he hs hs1) fun _ _ _ h => comp2_run hk hk1 hv h
end
theorem eComp2_e (own : List Nat) (src : M (List D)) (tg : Tg) (t : M Bool) (vs1 : List Nat) (src1 : M (List D)) (tg1 : Tg) (t1 : M Bool) (f : M O) (e : Sl) : eComp2 own src tg t vs1 src1 tg1 t1 f e = @thn' _ _ (src e) ⟨fun ds e' => lcR own e' (lc2L own tg t vs1 src1 tg1 t1 f ds [] (wipeE e' own))⟩ := nr rfl
/-! ## 49. list.index of a text -/
def idxS : List Str → Str → Option Nat
  | [], _ => none
  | y :: ys, k => if y = k then some 0 else (idxS ys k).map (· + 1)
theorem idxS_spec : ∀ {ys : List Str} {k : Str} {j : Nat}, idxS ys k = some j → ys[j]? = some k ∧ ∀ (m : Nat) (z : Str), m < j → ys[m]? = some z → z ≠ k
  | [], _, _, h => by cases h
  | y :: ys, k, j, h => by
    unfold idxS at h
    by_cases e : y = k
    · rw [if_pos e] at h
      cases h
      exact ⟨by rw [e]; rfl, fun m z hm _ => by omega⟩
    · rw [if_neg e] at h
      obtain ⟨i, h1, rfl⟩ := Option.map_eq_some_iff.mp h
      obtain ⟨a, b⟩ := idxS_spec h1
      refine ⟨a, fun m z hm hz => ?_⟩
      cases m with
      | zero => cases hz; exact e
      | succ m => exact b m z (by omega) hz
def gLIndex : List D → Option O
  | [.lst ds, .str k] => match strsD ds with
    | some ys => (idxS ys k).map fun j => iO (j : Nat)
    | none => none
  | _ => none
theorem n_lindex {K : PySem.W.Frag} : SndM K (rIndex K) gLIndex := fun B H x vs a ds o hx ha hr hg Q q => by
  unfold gLIndex at hg
  split at hg
  · rename_i _ ls k e
    injection e with e1 e2
    subst e1 e2
    split at hg
    · rename_i ys h1
      obtain ⟨j, hj, rfl⟩ := Option.map_eq_some_iff.mp hg
      have e3 := strsD_of h1
      subst e3
      obtain ⟨p, xs, rfl, h2, h3⟩ := ha
      obtain ⟨y, rfl, h4⟩ := hr.one
      cases h4
      have e4 := repL_of_strs h3
      subst e4
      obtain ⟨a1, a2⟩ := idxS_spec hj
      refine ⟨p, _, _, j, .str k, rfl, rfl, Evl.sq_of h2, rfl, ?_, ?_, ?_, fun m z hm hz => ?_, q.fr hx (.int _)⟩
      · rw [List.all_map]; exact List.all_eq_true.mpr fun _ _ => rfl
      · rw [List.getElem?_map, a1]; rfl
      · simp [eqV]
      · rw [List.getElem?_map] at hz
        obtain ⟨z', hz', rfl⟩ := Option.map_eq_some_iff.mp hz
        have := a2 m z' hm hz'
        simp [eqV, this]
    · cases hg
  · cases hg
theorem gLIndex_s {ys : List Str} {k : Str} {j : Nat} (h : idxS ys k = some j) : gLIndex [.lst (ys.map D.str), .str k] = some (iO (j : Nat)) := by
  have e : strsD (ys.map D.str) = some ys := by
    clear h
    induction ys with
    | nil => rfl
    | cons y ys ih => show (strsD (ys.map D.str)).map (y :: ·) = _; rw [ih]; rfl
  show (match strsD (ys.map D.str) with
    | some ys => (idxS ys k).map fun j => iO (j : Nat)
    | none => none) = _
  rw [e]
  show (idxS ys k).map _ = _
  rw [h]; rfl
end Dn

namespace Dn
open PySem L2
open Evl (Ex)

/-! ## 50. str of a text or a whole number; join of a tuple -/
def gStr2 : List D → Option O
  | [.int i] => if i.natAbs.log2 < 1920 then some (sO (toString i)) else none
  | [.str z] => some (sO z)
  | _ => none
theorem call_str2 {X : Cx} : CallR X (.type "str") (fun xs H Q => (∃ i : Int, xs = [.int i] ∧ i.natAbs.log2 < 1920 ∧ Q (.str (toString i)) H) ∨ ∃ a, xs = [.str a] ∧ Q (.str a) H) := by
  intro pins s σ H xs us Q I r h
  rcases h with h | h
  · exact call_str_int pins s σ H xs us Q I r h
  · exact SkE.call_str_str pins s σ H xs us Q I r h
theorem n_str2 {K : PySem.W.Frag} : SndN K (fun xs H Q => (∃ i : Int, xs = [.int i] ∧ i.natAbs.log2 < 1920 ∧ Q (.str (toString i)) H) ∨ ∃ a, xs = [.str a] ∧ Q (.str a) H) gStr2 := by
  intro B H vs ds o hx hr hg Q q
  unfold gStr2 at hg
  split at hg
  · split at hg
    · obtain ⟨v, rfl, h1⟩ := hr.one
      cases h1
      injection hg with hg
      subst hg
      exact .inl ⟨_, rfl, by assumption, q.fr hx (.str _)⟩
    · cases hg
  · obtain ⟨v, rfl, h1⟩ := hr.one
    cases h1
    injection hg with hg
    subst hg
    exact .inr ⟨_, rfl, q.fr hx (.str _)⟩
  · cases hg
theorem gStr2_z {z : Str} : gStr2 [.str z] = some (sO z) := nr rfl
theorem gStr2_i {i : Int} (h : i.natAbs.log2 < 1920) : gStr2 [.int i] = some (sO (toString i)) := if_pos h
def gJoinT : List D → Option O
  | [.str a, .tup ds] => (strsD ds).bind fun ys => if (ys.map (·.length)).sum + ys.length * a.length ≤ 16777216 then some (sO (Txt.join a ys)) else none
  | _ => none
theorem n_joinT {K : PySem.W.Frag} : SndM K (fun x xs H Q => ∃ a p, ∃ ys : List Str, x = .str a ∧ xs = [.ref p] ∧ (SqL K H p (ys.map V.str) ∨ SqT K H p (ys.map V.str)) ∧ (ys.map (·.length)).sum + ys.length * a.length ≤ 16777216 ∧ Q (.str (Txt.join a ys)) H) gJoinT := fun B H x vs a ds o hx hr hl hg Q q => by
  unfold gJoinT at hg
  split at hg
  · rename_i h; cases h
    obtain ⟨ys, e1, hg⟩ := Option.bind_eq_some_iff.mp hg
    split at hg
    · rename_i hz
      cases hg; cases hr
      obtain ⟨v, rfl, rv⟩ := hl.one
      have rv' : Rep K B v (.tup _) := rv
      cases rv' with
      | tup h1 h2 =>
        rw [strsD_map e1] at h2
        rw [repL_of_strs h2] at h1
        exact ⟨_, _, ys, rfl, rfl, .inr (Evl.ex_t hx h1.sq), hz, q.fr hx (.str _)⟩
    · cases hg
  · cases hg
theorem gJoinT_eq {a : Str} {ds : List D} : gJoinT [.str a, .tup ds] = gJoin [.str a, .lst ds] := nr rfl
end Dn

namespace Dn
open PySem L2
open Evl (Ex)

/-! ## 48. zip of two lists -/
def sZipE (f g : M O) : M (List D) := (items [f, g]).bind fun ds e => match ds with
  | [.lst xs, .lst ys] => some (.ok (zipD xs ys) e)
  | _ => none
section
variable {X : Cx} {W : WX} {e e2 : Expr} {pos p : Pos} {f g : M O}
theorem i_zip {elts : List Expr} {kk : Nat} {tpos : Pos} (hg : Gl X "zip") (hm : X.mg "zip" = none) (ha : PE X e (tE X.K X.mg W f)) (hb : PE X e2 (tE X.K X.mg W g))
    (hs : starEach [e, e2] X.env = (false, eval e X.env) :: starEach [e2] X.env := by rfl) (hs2 : starEach [e2] X.env = (false, eval e2 X.env) :: starEach [] X.env := by rfl) (hpl : (backTo pos (starEach [e2] X.env)).any (·.1) = false := by rfl) :
    PI X (.Tuple elts kk tpos) (.Call (.Name "zip" p) [e, e2] [] pos) (tSrc X.K X.mg W (sZipE f g)) := pi_imp (pi_zip hg hm (is_c (f := f) ha (is_c (f := g) hb is_n hs2) hs) hs hpl) fun σ H R h => by
  obtain ⟨B, e, S, r, h⟩ := h
  refine items_run [f, g] _ r (h.bind.imp (fun ds e' h2 vs B' H' S' r' rl fr => ?_) fun _ _ z => z)
  cases rl with
  | nil => exact h2.elim
  | cons rv rl =>
    cases rl with
    | nil => cases rv <;> exact h2.elim
    | cons rw rl =>
      cases rl with
      | cons _ _ => cases rv <;> first | exact h2.elim | (cases rw <;> exact h2.elim)
      | nil =>
        cases rv with
        | lst k1 k2 =>
          cases rw with
          | lst j1 j2 => exact ⟨_, _, _, _, rfl, Evl.sq_of (r'.ex _ _ k1), Evl.sq_of (r'.ex _ _ j1), (show ∀ J B' H' S', Rp X.K B' H' σ e' S' → Fr B H (tot S) B' H' (tot S') → WalkD X.K J B' _ → R J H' from h2) _ B' H' S' r' fr (walkD_zip (Evl.sq_of k1) (Evl.sq_of j1) k2 j2)⟩
          | _ => exact h2.elim
        | _ => exact h2.elim
end
section
variable {e : Sl}
theorem sZipE_e (f g : M O) : sZipE f g e = @thn' _ _ (f e) ⟨fun o e1 => @thn' _ _ (g e1) ⟨fun o2 e2 => match [o.d, o2.d] with
  | [.lst xs, .lst ys] => some (.ok (zipD xs ys) e2)
  | _ => none⟩⟩ := by
  unfold sZipE M.bind
  rw [items_c]
  cases f e with
  | none => rfl
  | some r => cases r with
    | ex x e1 => rfl
    | ok o e1 =>
      rw [thn_ok, thn_ok]
      dsimp only
      rw [items_c]
      cases g e1 with
      | none => rfl
      | some r => cases r <;> rfl
end
end Dn

namespace Dn
open PySem L2
open Evl (Ex)

/-! ## 49. Trees of one's own -/
mutual
/-- the data of a tree -/
def T.d : T → D
  | .fr d => d
  | .lst xs => .lst xs
  | .dct ks xs => .dct ks xs
  | .dtt _ _ => .opq
  | .tup ts => .tup (T.ds ts)
  | .ins c ns ts => .ins c ns (T.ds ts)
def T.ds : List T → List D
  | [] => []
  | t :: ts => T.d t :: T.ds ts
end
def O.t : O → T
  | .fr d => .fr d
  | .lst xs => .lst xs
  | .dct ks xs => .dct ks xs
  | .ins c ns xs => .ins c ns (xs.map .fr)
  | .exn _ _ _ => .fr .opq
  | .tr t => t
/-- what a slot's content is, all of it -/
def O.dd : O → D
  | .tr t => t.d
  | o => o.d
section
variable {K : PySem.W.Frag} {mg : Str → Option Value} {W : WX} {B B' H H' : Hp} {v : V} {o : O} {σ σ' : St} {e e' : Sl} {S S' : Nat → Addr → Prop} {U U' : Addr → Prop}
theorem RepTs.frs : ∀ {vs : List V} {ds : List D}, RepL K B vs ds → RepTs K B H vs (ds.map T.fr) noS
  | _, _, .nil => .nil fun _ z => z
  | _, _, .cons h hs => .cons (S1 := noS) (S2 := noS) (.fr h fun _ z => z) (RepTs.frs hs) (fun _ z => z.elim) fun a => ⟨fun z => z.elim, fun z => z.elim id id⟩
theorem RepO.t (h : RepO K B H v o U) : RepT K B H v o.t U := by
  cases o with
  | fr d => exact .fr h.1 h.2
  | lst ds =>
    obtain ⟨p, xs, rfl, h1, h2, h3⟩ := h
    exact .lst h1 h2 h3
  | dct ks ds =>
    obtain ⟨p, kv, rfl, h1, h2, h3, h4⟩ := h
    exact .dct h1 h2 h3 h4
  | ins c ns xs =>
    obtain ⟨p, C, dx, fs, rfl, h1, h2, h3, h4, h5⟩ := h
    exact .ins h1 h2 h3 (RepTs.frs h4) (fun z => z) fun a => (h5 a).trans ⟨.inl, fun z => z.elim id fun z => z.elim⟩
  | exn a d x => exact .fr (.opq _) h.2.2
  | tr t => exact h
mutual
theorem RepT.fz : ∀ {v : V} {t : T} {U : Addr → Prop} {B : Hp}, RepT K B H v t U → Ex B H → (∀ a, U a → B a = none) → ∃ B', Rep K B' v t.d ∧ Ex B B' ∧ Ex B' H ∧ ∀ a u, B' a = some u → B a = some u ∨ U a
  | _, .fr d, _, B, .fr h n, hx, _ => ⟨B, by rw [T.d]; exact h, Ex.refl B, hx, fun a u q => .inl q⟩
  | _, .lst ds, _, B, .lst (p := p) (xs := xs) h r e, hx, hb => by
    have hb := hb p ((e p).mpr rfl)
    refine ⟨upd B p (.lst xs), by rw [T.d]; exact .lst upd_same (r.mono (Ex.new hb)), Ex.new hb, fun a u q => ?_, fun a u q => ?_⟩
    · by_cases ha : a = p
      · subst ha; rw [upd_same] at q; cases q; exact h
      · rw [upd_ne ha] at q; exact hx a u q
    · by_cases ha : a = p
      · exact .inr ((e a).mpr ha)
      · rw [upd_ne ha] at q; exact .inl q
  | _, .dct ks ds, _, B, .dct (p := p) (kv := kv) h k r e, hx, hb => by
    have hb := hb p ((e p).mpr rfl)
    refine ⟨upd B p (.dK kv), by rw [T.d]; exact .dct upd_same k (r.mono (Ex.new hb)), Ex.new hb, fun a u q => ?_, fun a u q => ?_⟩
    · by_cases ha : a = p
      · subst ha; rw [upd_same] at q; cases q; exact h
      · rw [upd_ne ha] at q; exact hx a u q
    · by_cases ha : a = p
      · exact .inr ((e a).mpr ha)
      · rw [upd_ne ha] at q; exact .inl q
  | _, .dtt ks ds, _, B, .dtt h k r e, hx, _ => ⟨B, by rw [T.d]; exact .opq _, Ex.refl B, hx, fun a u q => .inl q⟩
  | _, .tup ts, _, B, .tup h r, hx, hb => by
    obtain ⟨B', r', b1, b2, b3⟩ := RepTs.fz r hx hb
    exact ⟨B', by rw [T.d]; exact .tup (SqK.ex b1 h) r', b1, b2, b3⟩
  | _, .ins c ns ts, _, B, .ins (p := p) (dx := dx) (C := C) (fs := fs) h hc k r n e, hx, hb => by
    obtain ⟨B1, r', b1, b2, b3⟩ := RepTs.fz r hx fun a z => hb a ((e a).mpr (.inr z))
    have hp : B1 p = none := by
      cases q : B1 p with
      | none => rfl
      | some u =>
        rcases b3 p u q with z | z
        · rw [hb p ((e p).mpr (.inl rfl))] at z; cases z
        · exact absurd z n
    refine ⟨upd B1 p (.ins C dx fs), by rw [T.d]; exact .ins upd_same hc k (r'.mono (Ex.new hp)), b1.trans (Ex.new hp), fun a u q => ?_, fun a u q => ?_⟩
    · by_cases ha : a = p
      · subst ha; rw [upd_same] at q; cases q; exact h
      · rw [upd_ne ha] at q; exact b2 a u q
    · by_cases ha : a = p
      · exact .inr ((e a).mpr (.inl ha))
      · rw [upd_ne ha] at q; exact (b3 a u q).elim .inl fun z => .inr ((e a).mpr (.inr z))
theorem RepTs.fz : ∀ {vs : List V} {ts : List T} {U : Addr → Prop} {B : Hp}, RepTs K B H vs ts U → Ex B H → (∀ a, U a → B a = none) → ∃ B', RepL K B' vs (T.ds ts) ∧ Ex B B' ∧ Ex B' H ∧ ∀ a u, B' a = some u → B a = some u ∨ U a
  | _, [], _, B, .nil n, hx, _ => ⟨B, by rw [T.ds]; exact .nil, Ex.refl B, hx, fun a u q => .inl q⟩
  | _, t :: ts, _, B, .cons a b d e, hx, hb => by
    obtain ⟨B1, r1, p1, p2, p3⟩ := RepT.fz a hx fun x z => hb x ((e x).mpr (.inl z))
    obtain ⟨B2, r2, q1, q2, q3⟩ := RepTs.fz (RepTs.frame p1 b fun x o _ y => y) p2 fun x z => by
      cases q : B1 x with
      | none => rfl
      | some u =>
        rcases p3 x u q with y | y
        · rw [hb x ((e x).mpr (.inr z))] at y; cases y
        · exact absurd z (d x y)
    refine ⟨B2, by rw [T.ds]; exact .cons (r1.mono q1) r2, p1.trans q1, q2, fun x u q => ?_⟩
    rcases q3 x u q with y | y
    · exact (p3 x u y).imp id fun z => (e x).mpr (.inl z)
    · exact .inr ((e x).mpr (.inr y))
end
/-- what is one's own is frozen, all of it -/
theorem freezeT (h : RepO K B H v o U) (hx : Ex B H) (ho : Own B H U) : ∃ B', Rep K B' v o.dd ∧ Ex B B' ∧ Ex B' H ∧ ∀ a u, B' a = some u → B a = some u ∨ U a := by
  have gen : o.dd = o.d → ∃ B', Rep K B' v o.dd ∧ Ex B B' ∧ Ex B' H ∧ ∀ a u, B' a = some u → B a = some u ∨ U a := fun e => by
    obtain ⟨B', r, hb, hx, hc, _⟩ := Dn.freeze h hx ho
    exact ⟨B', e ▸ r, hb, hx, hc⟩
  cases o with
  | tr t => exact RepT.fz h hx fun a z => (ho a z).1
  | fr d => exact gen rfl
  | lst _ => exact gen rfl
  | dct _ _ => exact gen rfl
  | ins _ _ _ => exact gen rfl
  | exn _ _ _ => exact gen rfl
/-- all slots frozen: only looked at -/
def lkE (e : Sl) : Sl := e.map (Option.map fun o => O.fr o.dd)
theorem Rp.allfz (r : Rp K B H σ e S) : ∃ B', Rp K B' H σ (lkE e) (fun _ => noS) ∧ Ex B' H := by
  have key : ∀ n, ∃ B', Ex B B' ∧ Ex B' H ∧ (∀ a u, B' a = some u → B a = some u ∨ ∃ i, i < n ∧ S i a) ∧ ∀ i o, i < n → e[i]? = some (some o) → ∃ v, σ[i]? = some (some v) ∧ Rep K B' v o.dd := by
    intro n
    induction n with
    | zero => exact ⟨B, Ex.refl B, r.ex, fun a u q => .inl q, fun i o h => absurd h (Nat.not_lt_zero _)⟩
    | succ n ih =>
      obtain ⟨B1, b1, b2, b3, b4⟩ := ih
      cases q : e[n]? with
      | none =>
        refine ⟨B1, b1, b2, fun a u h => (b3 a u h).imp id fun ⟨i, h1, h2⟩ => ⟨i, Nat.lt_succ_of_lt h1, h2⟩, fun i o h ho => ?_⟩
        by_cases hi : i = n
        · subst hi; rw [q] at ho; cases ho
        · exact b4 i o (by omega) ho
      | some u =>
        cases u with
        | none =>
          refine ⟨B1, b1, b2, fun a u h => (b3 a u h).imp id fun ⟨i, h1, h2⟩ => ⟨i, Nat.lt_succ_of_lt h1, h2⟩, fun i o h ho => ?_⟩
          by_cases hi : i = n
          · subst hi; rw [q] at ho; cases ho
          · exact b4 i o (by omega) ho
        | some o =>
          obtain ⟨v, hv, ro⟩ := r.rep n o q
          have hn : ∀ a, S n a → B1 a = none := fun a ha => by
            cases q1 : B1 a with
            | none => rfl
            | some u =>
              rcases b3 a u q1 with z | ⟨i, h1, h2⟩
              · rw [(r.own n a ha).1] at z; cases z
              · have := r.dis i n a h2 ha; omega
          have ro' : RepO K B1 H v o (S n) := by
            cases o with
            | fr d => exact ⟨ro.1.mono b1, ro.2⟩
            | lst ds => obtain ⟨p, xs, e, hp, hr, hs⟩ := ro; exact ⟨p, xs, e, hp, hr.mono b1, hs⟩
            | dct _ _ => obtain ⟨p, kv, e, hp, hk, hr, hs⟩ := ro; exact ⟨p, kv, e, hp, hk, hr.mono b1, hs⟩
            | ins _ _ _ => obtain ⟨p, C, dx, fs, e, hp, hc, hk, hr, hs⟩ := ro; exact ⟨p, C, dx, fs, e, hp, hc, hk, hr.mono b1, hs⟩
            | exn a d x => obtain ⟨e, ⟨fs, hd, hx⟩, hs⟩ := ro; exact ⟨e, ⟨fs, b1 _ _ hd, hx.mono b1⟩, hs⟩
            | tr t => exact RepT.frame b1 ro fun _ _ _ q => q
          obtain ⟨B2, r2, c1, c2, c3⟩ := freezeT ro' b2 fun a ha => ⟨hn a ha, (r.own n a ha).2⟩
          refine ⟨B2, b1.trans c1, c2, fun a u h => ?_, fun i o' h ho => ?_⟩
          · rcases c3 a u h with z | z
            · exact (b3 a u z).imp id fun ⟨i, h1, h2⟩ => ⟨i, Nat.lt_succ_of_lt h1, h2⟩
            · exact .inr ⟨n, Nat.lt_succ_self n, z⟩
          · by_cases hi : i = n
            · subst hi; rw [q] at ho; cases ho; exact ⟨v, hv, r2⟩
            · obtain ⟨w, w1, w2⟩ := b4 i o' (by omega) ho
              exact ⟨w, w1, w2.mono c1⟩
  obtain ⟨B', b1, b2, _, b4⟩ := key e.length
  refine ⟨B', ⟨by unfold lkE; rw [List.length_map]; exact r.len, b2, fun i o ho => ?_, fun _ _ _ z => z.elim, fun _ _ z => z.elim⟩, b2⟩
  unfold lkE at ho
  rw [List.getElem?_map] at ho
  cases q : e[i]? with
  | none => rw [q] at ho; cases ho
  | some u =>
    rw [q] at ho
    cases u with
    | none => cases ho
    | some o' =>
      cases ho
      obtain ⟨v, h1, h2⟩ := b4 i o' (List.getElem?_eq_some_iff.mp q).1 q
      exact ⟨v, h1, h2, fun _ z => z⟩
/-- a value that lies in no heap -/
def immD : D → Bool
  | .bl _ => true
  | .int _ => true
  | .str _ => true
  | .non => true
  | _ => false
/-- a value worked out by a look at the slots: they stay as they are -/
def eLook (f : M O) : M O := fun e => match f (lkE e) with
  | some (.ok (.fr d) _) => if immD d then some (.ok (.fr d) e) else none
  | _ => none
def cLook (c : M Bool) : M Bool := fun e => match c (lkE e) with
  | some (.ok b _) => some (.ok b e)
  | _ => none
theorem rep_imm {d : D} (h : immD d = true) (r : Rep K B v d) : Rep K B' v d := by
  cases r with
  | bl b => exact .bl b
  | int i => exact .int i
  | str x => exact .str x
  | non => exact .non
  | _ => cases h
theorem look_fr (f : Fr B H noS B' H' U) : ∀ {B0 : Hp}, Ex B0 H → Gr B0 H B0 H' := fun hx =>
  have h : Ex H H' := fun a o q => f.k a o q fun z => z
  ⟨Ex.refl _, h, hx.trans h, fun _ _ q => .inl q⟩
end
section
variable {X : Cx} {W : WX} {e a b : Expr} {pos : Pos} {f : M O} {c : M Bool}
theorem d_look (h : PE X e (tE X.K X.mg W f)) : PE X e (tE X.K X.mg W (eLook f)) := pe_imp h fun σ H Q h => by
  obtain ⟨B, e, S, r, h⟩ := h
  obtain ⟨B0, r0, x0⟩ := r.allfz
  unfold eLook at h
  refine ⟨B0, lkE e, _, r0, ?_⟩
  cases q : f (lkE e) with
  | none => rw [q] at h; exact h.elim
  | some ro =>
    rw [q] at h
    cases ro with
    | ex x e1 => exact h.elim
    | ok o e1 =>
      cases o with
      | fr d =>
        dsimp only at h
        by_cases hi : immD d = true
        · rw [if_pos hi] at h
          intro v B' H' S' T vl fr
          have g := look_fr (fr.imp (fun a ⟨_, z⟩ => z) fun _ z => z) r.ex
          exact h v B H' S noS (.fr (r.grow g) (rep_imm hi vl.ro.1)) ((g.fr (tot S)).imp (fun _ z => z) fun a z => z.elim (fun z => z.elim) id)
        · rw [if_neg hi] at h; exact h.elim
      | _ => exact h.elim
theorem c_look (h : PT X e (tT X.K X.mg W c)) : PT X e (tT X.K X.mg W (cLook c)) := pt_imp h fun σ H Q h => by
  obtain ⟨B, e, S, r, h⟩ := h
  obtain ⟨B0, r0, x0⟩ := r.allfz
  unfold cLook at h
  refine ⟨B0, lkE e, _, r0, ?_⟩
  cases q : c (lkE e) with
  | none => rw [q] at h; exact h.elim
  | some ro =>
    rw [q] at h
    cases ro with
    | ex x e1 => exact h.elim
    | ok b e1 =>
      intro B' H' S' rp fr
      have g := look_fr (fr.imp (fun a ⟨_, z⟩ => z) fun _ z => z) r.ex
      exact h B H' S (r.grow g) (g.fr (tot S))
/-! ### a tuple that keeps its items as they are -/
def itemsT : List (M O) → M (List T)
  | [] => M.pure []
  | f :: fs => f.bind fun o => (itemsT fs).bind fun ts => M.pure (o.t :: ts)
def eTupT (fs : List (M O)) : M O := (itemsT fs).bind fun ts => M.pure (.tr (.tup ts))
theorem itemsT_len : ∀ (fs : List (M O)) (e : Sl) (ts : List T) (e' : Sl), itemsT fs e = some (.ok ts e') → ts.length = fs.length
  | [], e, ts, e', h => by cases h; rfl
  | f :: fs, e, ts, e', h => by
    unfold itemsT M.bind at h
    cases q : f e with
    | none => rw [q] at h; cases h
    | some r =>
      cases r with
      | ex x e1 => rw [q] at h; cases h
      | ok o e1 =>
        rw [q] at h
        dsimp only [M.bind] at h
        cases q2 : itemsT fs e1 with
        | none => rw [q2] at h; cases h
        | some r2 =>
          cases r2 with
          | ex x e2 => rw [q2] at h; cases h
          | ok ts2 e3 =>
            rw [q2] at h
            have q3 := itemsT_len fs e1 ts2 e3 q2
            cases h
            rw [List.length_cons, List.length_cons, q3]
theorem itemsT_run {K : PySem.W.Frag} {mg : Str → Option Value} {W : WX} {σ : St} : ∀ (fs : List (M O)) {B H : Hp} {e : Sl} {S : Nat → Addr → Prop} (Q : List V → Hp → Prop), Rp K B H σ e S →
    Post (itemsT fs e) (fun ts e' => ∀ vs B' H' S' U, Rp K B' H' σ e' S' → RepTs K B' H' vs ts U → Own B' H' U → (∀ a, U a → ¬ tot S' a) → Fr B H (tot S) B' H' (fun a => U a ∨ tot S' a) → Q vs H') (fun x e' => ExE K mg W B H S σ x e') → tIs K mg W fs σ H Q
  | [], B, H, e, S, Q, r, h => h [] B H S noS r (.nil fun _ z => z) own_no (fun _ z => z.elim) ((Fr.refl _ _ _).imp (fun _ z => z) fun a z => z.elim (fun z => z.elim) id)
  | f :: fs, B, H, e, S, Q, r, h => by
    unfold itemsT at h
    refine ⟨B, e, S, r, h.bind.imp (fun o e1 h v B1 H1 S1 T vl f1 => ?_) fun _ _ z => z⟩
    refine itemsT_run fs _ vl.rp (h.bind.imp (fun ts e' h vs B' H' S' U r' rl ho hd f4 => ?_) fun x e' z => ?_)
    · have h' : ∀ vs B' H' S' U, Rp K B' H' σ e' S' → RepTs K B' H' vs (o.t :: ts) U → Own B' H' U → (∀ a, U a → ¬ tot S' a) → Fr B H (tot S) B' H' (fun a => U a ∨ tot S' a) → Q vs H' := h
      obtain ⟨k1, k2, k3⟩ := vl.ro.frame vl.own vl.dj f4
      refine h' (v :: vs) B' H' S' (fun a => T a ∨ U a) r' (.cons (RepO.t k1) rl (fun a z w => k3 a z (.inl w)) fun a => Iff.rfl) (fun a z => z.elim (k2 a) (ho a)) (fun a z w => z.elim (fun z => k3 a z (.inr w)) fun z => hd a z w) ?_
      have f5 := (f1.trans (f4.both T)).imp (fun _ z => z) (S1' := fun a => (T a ∨ U a) ∨ tot S' a) fun a z => z.elim (fun z => z.elim .inl fun z => .inr (.inl z)) fun z => .inr (.inr z)
      exact f5
    · intro C d fs B2 H2 S2 h1 h2 h3 h4 hn h6
      exact z C d fs B2 H2 S2 h1 h2 h3 h4 (f1.back hn) ((f1.trans (h6.both T)).imp (fun _ z => z) fun a z => .inr z)
theorem d_tupT {es : List Expr} {fs : List (M O)} {x1} (h : PA X es (tIs X.K X.mg W fs)) (hn : fs.length ≤ 1000 := by decide) : PE X (.Tuple es x1 pos) (tE X.K X.mg W (eTupT fs)) := pe_imp (pe_tup h) fun σ H Q h => by
  obtain ⟨B, e, S, r, h⟩ := h
  have hl : Post (itemsT fs e) (fun ts e' => ts.length = fs.length ∧ ∀ v B' H' S' T, Vl X.K B' H' σ e' S' v (.tr (.tup ts)) T → Fr B H (tot S) B' H' (fun a => T a ∨ tot S' a) → Q v H') (fun x e' => ExE X.K X.mg W B H S σ x e') := by
    have h0 := h.bind
    cases q : itemsT fs e with
    | none => rw [q] at h0; exact h0
    | some ro =>
      rw [q] at h0
      cases ro with
      | ex x e1 => exact h0
      | ok ts e1 => exact ⟨itemsT_len fs e ts e1 q, h0⟩
  refine itemsT_run fs _ r (hl.imp (fun ts e' h vs B' H' S' U r' rl ho hd f => ?_) fun _ _ z => z)
  obtain ⟨hlen, h'⟩ := h
  have hvl : vs.length = ts.length := by
    clear h' hlen hl h
    have : ∀ {vs : List V} {ts : List T} {U : Addr → Prop}, RepTs X.K B' H' vs ts U → vs.length = ts.length := by
      intro vs
      induction vs with
      | nil => intro ts U h; cases h; rfl
      | cons v vs ih => intro ts U h; cases h with | cons a b d e => rw [List.length_cons, List.length_cons, ih b]
    exact this rl
  refine ⟨by rw [hvl, hlen]; exact Nat.le_trans hn (by decide), fun p hp => ?_⟩
  have g := Gr.new r'.ex hp (.tup vs)
  refine h' (.ref p) _ _ S' U ⟨r'.grow g, RepT.tup (.inl upd_same) (RepTs.frame g.b rl fun a o _ q => g.h a o q), ho.grow g, hd⟩ ?_
  exact f.trans (g.fr _)
/-! ### parts of a tree -/
inductive Stp where
  | ix (k : Nat) | fld (c f : Str)
def getT : List Str → List T → Str → Option T
  | n :: ns, t :: ts, f => if n = f then some t else getT ns ts f
  | _, _, _ => none
def T.kid : Stp → T → Option T
  | .ix k, .tup ts => ts[k]?
  | .fld c f, .ins c' ns ts => if c' = c then getT ns ts f else none
  | _, _ => none
def T.sub (t : T) (path : List Stp) : Option T := path.foldl (fun o k => o.bind (T.kid k)) (some t)
theorem T.sub_snoc (t : T) (path : List Stp) (k : Stp) : T.sub t (path ++ [k]) = (T.sub t path).bind (T.kid k) := by unfold T.sub; rw [List.foldl_append]; rfl
/-- the part of slot i at path, as it stands -/
def tPath (K : PySem.W.Frag) (i : Nat) (path : List Stp) : TE := fun σ H Q => ∃ B e S t t', Rp K B H σ e S ∧ e[i]? = some (some (.tr t)) ∧ T.sub t path = some t' ∧ ∀ v U, RepT K B H v t' U → (∀ a, U a → S i a) → Q v H
theorem RepTs.get {K : PySem.W.Frag} {B H : Hp} : ∀ {vs : List V} {ts : List T} {U : Addr → Prop} {k : Nat} {t : T}, RepTs K B H vs ts U → ts[k]? = some t → ∃ v U', vs[k]? = some v ∧ RepT K B H v t U' ∧ ∀ a, U' a → U a
  | _, _, _, _, _, .nil _, h => by simp at h
  | _, _, _, 0, _, .cons a b d e, h => by simp at h; subst h; exact ⟨_, _, rfl, a, fun x z => (e x).mpr (.inl z)⟩
  | _, _, _, k + 1, t, .cons a b d e, h => by
    obtain ⟨v, U', h1, h2, h3⟩ := RepTs.get (k := k) (t := t) b (by simpa using h)
    exact ⟨v, U', by simpa using h1, h2, fun x z => (e x).mpr (.inr (h3 x z))⟩
theorem RepTs.getF {K : PySem.W.Frag} {B H : Hp} {f : Str} {t : T} : ∀ {fs : List (Str × V)} {ns : List Str} {ts : List T} {U : Addr → Prop}, fs.map (·.1) = ns → RepTs K B H (fs.map (·.2)) ts U → getT ns ts f = some t → ∃ v U', fs.lookup f = some v ∧ RepT K B H v t U' ∧ ∀ a, U' a → U a
  | [], [], ts, _, _, h, e => by cases ts <;> cases e
  | p :: fs, [], _, _, h, _, _ => by cases h
  | [], _ :: _, _, _, h, _, _ => by cases h
  | p :: fs, n :: ns, [], _, _, hr, _ => by cases hr
  | (g, x) :: fs, n :: ns, t' :: ts, U, h, hr, e => by
    rw [List.map_cons] at h hr
    injection h with h1 h2
    have h1' : g = n := h1
    unfold getT at e
    cases hr with
    | cons a b d eu =>
      by_cases ej : n = f
      · rw [if_pos ej] at e
        cases e
        exact ⟨x, _, by rw [List.lookup_cons, show (f == g) = true from beq_iff_eq.mpr (h1'.trans ej).symm], a, fun y z => (eu y).mpr (.inl z)⟩
      · rw [if_neg ej] at e
        obtain ⟨v, U', e1, e2, e3⟩ := RepTs.getF h2 b e
        exact ⟨v, U', by rw [List.lookup_cons, show (f == g) = false from beq_eq_false_iff_ne.mpr fun z => ej (h1'.symm.trans z.symm)]; exact e1, e2, fun y z => (eu y).mpr (.inr (e3 y z))⟩
theorem d_path0 {i : Nat} {x : Str} (hv : PE X (.Name x pos) (tVar i)) : PE X (.Name x pos) (tPath X.K i []) := pe_imp hv fun σ H Q h => by
  obtain ⟨B, e, S, t, t', r, ht, hs, q⟩ := h
  obtain ⟨v, hv, ro⟩ := r.rep i _ ht
  have : t = t' := by unfold T.sub at hs; injection hs
  subst this
  exact ⟨v, hv, q v (S i) ro fun _ z => z⟩
theorem d_pathI {i : Nat} {path : List Stp} {k : Nat} {k0 : Nat} {p0 : Pos} (h : PE X a (tPath X.K i path)) (hp : PlainIx (.Constant (.int (k : Int)) k0 p0) := by intro _ _; rfl) : PE X (.Subscript a (.Constant (.int (k : Int)) k0 p0) pos) (tPath X.K i (path ++ [.ix k])) :=
  pe_imp (pe_ix (r := rIx X.K) ix_seq h pe_int hp) fun σ H Q h => by
    obtain ⟨B, e, S, t, t', r, ht, hs, q⟩ := h
    rw [T.sub_snoc] at hs
    obtain ⟨t1, h1, h2⟩ := Option.bind_eq_some_iff.mp hs
    refine ⟨B, e, S, t, t1, r, ht, h1, fun v U hr hu => ?_⟩
    cases t1 with
    | tup ts =>
      cases hr with
      | tup a b =>
        obtain ⟨w, U', w1, w2, w3⟩ := RepTs.get b (show ts[k]? = some t' from h2)
        exact .inr (.inl ⟨_, _, _, w, rfl, rfl, Evl.ex_t r.ex a.sq, by rw [atI_cn]; exact w1, q w U' w2 fun x z => hu x (w3 x z)⟩)
    | _ => cases h2
theorem d_pathF {i : Nat} {path : List Stp} {c fn : Str} {fs : List Str} (F : FldC X.K c fs) (hf : fn ∈ fs) (h : PE X a (tPath X.K i path)) (hb : attributeBase a fn X.env (eval a X.env) = eval a X.env := by rfl) : PE X (.Attribute a fn pos) (tPath X.K i (path ++ [.fld c fn])) :=
  pe_imp (pe_fld h hb) fun σ H Q h => by
    obtain ⟨B, e, S, t, t', r, ht, hs, q⟩ := h
    rw [T.sub_snoc] at hs
    obtain ⟨t1, h1, h2⟩ := Option.bind_eq_some_iff.mp hs
    refine ⟨B, e, S, t, t1, r, ht, h1, fun v U hr hu => ?_⟩
    cases t1 with
    | ins c' ns ts =>
      have h3 : (if c' = c then getT ns ts fn else none) = some t' := h2
      clear h2 hs
      by_cases ec : c' = c
      · rw [if_pos ec] at h3
        subst ec
        cases hr with
        | ins g hc k rr n e =>
          obtain ⟨w, U', w1, w2, w3⟩ := RepTs.getF k rr h3
          obtain ⟨k1, k2⟩ := F.ok _ hc
          exact ⟨_, _, _, _, w, rfl, g, k1, k2 _ hf, w1, q w U' w2 fun x z => hu x ((e x).mpr (.inr (w3 x z)))⟩
      · rw [if_neg ec] at h3; cases h3
    | _ => cases h2
/-- a list in a tree, taken out: the tree is not looked at again -/
def eTake (i : Nat) (path : List Stp) : M O := fun e => match e[i]? with
  | some (some (.tr t)) => match T.sub t path with
    | some (.lst xs) => some (.ok (.lst xs) (e.set i none))
    | _ => none
  | _ => none
theorem d_take {i : Nat} {path : List Stp} (h : PE X a (tPath X.K i path)) : PE X a (tE X.K X.mg W (eTake i path)) := pe_imp h fun σ H Q h => by
  obtain ⟨B, e, S, r, h⟩ := h
  unfold eTake at h
  cases q : e[i]? with
  | none => rw [q] at h; exact h.elim
  | some u =>
    rw [q] at h
    cases u with
    | none => exact h.elim
    | some o =>
      cases o with
      | tr t =>
        dsimp only at h
        cases q2 : T.sub t path with
        | none => rw [q2] at h; exact h.elim
        | some t' =>
          rw [q2] at h
          cases t' with
          | lst xs =>
            refine ⟨B, e, S, t, _, r, q, q2, fun v U hr hu => ?_⟩
            cases hr with
            | lst k1 k2 k3 =>
              rename_i p vs
              refine h (.ref p) B H (fun j => if j = i then noS else S j) U ⟨r.forget i, ⟨p, vs, rfl, k1, k2, k3⟩, fun x z => r.own i x (hu x z), fun x z w => ?_⟩ ((Fr.refl _ _ _).imp (fun _ z => z) fun x z => z.elim (fun z => ⟨i, hu x z⟩) tot_forget)
              obtain ⟨j, w⟩ := w
              by_cases hj : j = i
              · rw [if_pos hj] at w; exact w
              · rw [if_neg hj] at w; exact hj (r.dis j i x w (hu x z))
          | _ => exact h.elim
      | _ => exact h.elim
/-- a frozen part of a tree -/
def eRead (i : Nat) (path : List Stp) : M O := fun e => match e[i]? with
  | some (some (.tr t)) => match T.sub t path with
    | some (.fr d) => some (.ok (.fr d) e)
    | _ => none
  | _ => none
theorem d_read {i : Nat} {path : List Stp} (h : PE X a (tPath X.K i path)) : PE X a (tE X.K X.mg W (eRead i path)) := pe_imp h fun σ H Q h => by
  obtain ⟨B, e, S, r, h⟩ := h
  unfold eRead at h
  cases q : e[i]? with
  | none => rw [q] at h; exact h.elim
  | some u =>
    rw [q] at h
    cases u with
    | none => exact h.elim
    | some o =>
      cases o with
      | tr t =>
        dsimp only at h
        cases q2 : T.sub t path with
        | none => rw [q2] at h; exact h.elim
        | some t' =>
          rw [q2] at h
          cases t' with
          | fr d =>
            refine ⟨B, e, S, t, _, r, q, q2, fun v U hr hu => ?_⟩
            cases hr with
            | fr k1 k2 => exact h v B H S noS (.fr r k1) ((Fr.refl _ _ _).imp (fun _ z => z) fun a z => z.elim (fun z => z.elim) id)
          | _ => exact h.elim
      | _ => exact h.elim
/-- a tree that is kept by others: frozen, all of it -/
def eFzT (f : M O) : M O := f.bind fun o => M.pure (.fr o.dd)
theorem d_fzT (h : PE X e (tE X.K X.mg W f)) : PE X e (tE X.K X.mg W (eFzT f)) := pe_imp h fun σ H Q h => by
  obtain ⟨B, e, S, r, h⟩ := h
  refine ⟨B, e, S, r, h.bind.imp (fun o e' h v B' H' S' T vl f => ?_) fun _ _ z => z⟩
  have h' : ∀ v B' H' S' T, Vl X.K B' H' σ e' S' v (.fr o.dd) T → Fr B H (tot S) B' H' (fun a => T a ∨ tot S' a) → Q v H' := h
  obtain ⟨B2, r2, c1, c2, c3⟩ := freezeT vl.ro vl.rp.ex vl.own
  refine h' v B2 H' S' noS (.fr (vl.rp.bgrow c1 c2 fun i a ha => ?_) r2) ?_
  · cases q : B2 a with
    | none => rfl
    | some u =>
      rcases c3 a u q with z | z
      · rw [(vl.rp.own i a ha).1] at z; cases z
      · exact absurd ⟨i, ha⟩ (vl.dj a z)
  · exact f.trans ⟨c1, fun _ _ q _ => q, fun a z => z.elim (fun z => z.elim) fun z => .inl (.inr z), fun a u q => (c3 a u q).elim .inl fun z => .inr (.inl (.inl z)), fun _ o q => ⟨o, q⟩⟩
end
/-! ### evaluation -/
section
variable {e : Sl} {f : M O} {c : M Bool}
theorem lkE_n : lkE [] = [] := nr rfl
theorem lkE_c (o : Option O) (es : Sl) : lkE (o :: es) = (o.map fun o => O.fr o.dd) :: lkE es := nr rfl
theorem O.dd_fr (d : D) : (O.fr d).dd = d := nr rfl
theorem O.dd_lst (xs : List D) : (O.lst xs).dd = .lst xs := nr rfl
theorem O.dd_dct (ks : List L2.Key) (xs : List D) : (O.dct ks xs).dd = .dct ks xs := nr rfl
theorem O.dd_ins (c : Str) (ns : List Str) (xs : List D) : (O.ins c ns xs).dd = .ins c ns xs := nr rfl
theorem O.dd_tr (t : T) : (O.tr t).dd = t.d := nr rfl
/-- what a look hands back -/
def lookR (e : Sl) : Option (Ro O) → Option (Ro O)
  | some (.ok (.fr d) _) => if immD d then some (.ok (.fr d) e) else none
  | _ => none
theorem eLook_a (f : M O) : eLook f e = lookR e (f (lkE e)) := nr rfl
theorem lookR_b {b : Bool} {e' : Sl} : lookR e (some (.ok (bO b) e')) = some (.ok (bO b) e) := nr rfl
theorem lookR_b' {b : Bool} {e' : Sl} : lookR e (some (.ok (.fr (.bl b)) e')) = some (.ok (.fr (.bl b)) e) := nr rfl
def lookB (e : Sl) : Option (Ro Bool) → Option (Ro Bool)
  | some (.ok b _) => some (.ok b e)
  | _ => none
theorem cLook_a (c : M Bool) : cLook c e = lookB e (c (lkE e)) := nr rfl
theorem lookB_b {b : Bool} {e' : Sl} : lookB e (some (.ok b e')) = some (.ok b e) := nr rfl
/-- a look, by what the looked at gives -/
theorem eLook_v {b : Bool} {e' : Sl} (h : f (lkE e) = some (.ok (bO b) e')) : eLook f e = some (.ok (bO b) e) := by unfold eLook; rw [h]; rfl
theorem cLook_v {b : Bool} {e' : Sl} (h : c (lkE e) = some (.ok b e')) : cLook c e = some (.ok b e) := by unfold cLook; rw [h]
theorem itemsT_n : itemsT [] e = some (.ok [] e) := nr rfl
theorem itemsT_c (f : M O) (fs : List (M O)) : itemsT (f :: fs) e = @thn' _ _ (f e) ⟨fun o e1 => @thn' _ _ (itemsT fs e1) ⟨fun ds e2 => some (.ok (o.t :: ds) e2)⟩⟩ := nr rfl
theorem eTupT_a (fs : List (M O)) : eTupT fs e = @thn' _ _ (itemsT fs e) ⟨fun ts e' => some (.ok (.tr (.tup ts)) e')⟩ := nr rfl
theorem O.t_fr (d : D) : (O.fr d).t = .fr d := nr rfl
theorem O.t_lst (xs : List D) : (O.lst xs).t = .lst xs := nr rfl
theorem O.t_dct (ks : List L2.Key) (xs : List D) : (O.dct ks xs).t = .dct ks xs := nr rfl
theorem O.t_tr (t : T) : (O.tr t).t = t := nr rfl
theorem eFzT_a (f : M O) : eFzT f e = @thn' _ _ (f e) ⟨fun o e' => some (.ok (.fr o.dd) e')⟩ := nr rfl
theorem T.d_fr (d : D) : (T.fr d).d = d := by rw [T.d]
theorem T.d_lst (xs : List D) : (T.lst xs).d = .lst xs := by rw [T.d]
theorem T.d_dct (ks : List L2.Key) (xs : List D) : (T.dct ks xs).d = .dct ks xs := by rw [T.d]
theorem T.d_tup (ts : List T) : (T.tup ts).d = .tup (T.ds ts) := by rw [T.d]
theorem T.d_ins (c : Str) (ns : List Str) (ts : List T) : (T.ins c ns ts).d = .ins c ns (T.ds ts) := by rw [T.d]
theorem T.ds_n : T.ds [] = [] := by rw [T.ds]
theorem T.ds_c (t : T) (ts : List T) : T.ds (t :: ts) = t.d :: T.ds ts := by rw [T.ds]
theorem eTake_a (i : Nat) (path : List Stp) : eTake i path e = (match getO e i with
    | some (.tr t) => (match T.sub t path with
      | some (.lst xs) => some (.ok (.lst xs) (e.set i none))
      | _ => none)
    | _ => none) := by
  unfold eTake getO
  cases e[i]? with
  | none => rfl
  | some u => cases u with
    | none => rfl
    | some o => cases o <;> rfl
theorem eRead_a (i : Nat) (path : List Stp) : eRead i path e = (match getO e i with
    | some (.tr t) => (match T.sub t path with
      | some (.fr d) => some (.ok (.fr d) e)
      | _ => none)
    | _ => none) := by
  unfold eRead getO
  cases e[i]? with
  | none => rfl
  | some u => cases u with
    | none => rfl
    | some o => cases o <;> rfl
theorem T.sub_n (t : T) : T.sub t [] = some t := nr rfl
theorem sub_none : ∀ p : List Stp, p.foldl (fun o k => Option.bind o (T.kid k)) none = none
  | [] => rfl
  | k :: p => by rw [List.foldl_cons]; exact sub_none p
theorem T.sub_c (t : T) (k : Stp) (p : List Stp) : T.sub t (k :: p) = (match T.kid k t with
    | some t' => T.sub t' p
    | none => none) := by
  unfold T.sub
  rw [List.foldl_cons]
  show p.foldl _ (T.kid k t) = _
  cases T.kid k t with
  | none => exact sub_none p
  | some t' => rfl
theorem T.kid_i (k : Nat) (ts : List T) : T.kid (.ix k) (.tup ts) = ts[k]? := nr rfl
theorem T.kid_f (c f : Str) (ns : List Str) (ts : List T) : T.kid (.fld c f) (.ins c ns ts) = getT ns ts f := if_pos rfl
end
end Dn

namespace Dn
open PySem L2
open Evl (Ex)

/-! ## 50. max of a list with a default -/
theorem maxOf_go : ∀ (ys : List Int) (x : Int), PySem.W.maxOf x ys ∈ x :: ys ∧ ∀ z ∈ x :: ys, z ≤ PySem.W.maxOf x ys
  | [], x => ⟨.head _, fun z h => by rw [List.mem_singleton.mp h]; exact Int.le_refl _⟩
  | y :: ys, x => by
    have step : PySem.W.maxOf x (y :: ys) = PySem.W.maxOf (if x < y then y else x) ys := by
      show ys.foldl _ (if PySem.W.DatumOrd.lt x y = true then y else x) = _
      congr 1
      show (if decide (x < y) = true then y else x) = _
      by_cases h : x < y <;> simp [h]
    have ih := maxOf_go ys (if x < y then y else x)
    rw [step]
    refine ⟨?_, fun z hz => ?_⟩
    · rcases List.mem_cons.mp ih.1 with e | e
      · rw [e]
        by_cases h : x < y
        · rw [if_pos h]; simp
        · rw [if_neg h]; simp
      · exact .tail _ (.tail _ e)
    · have h0 := ih.2 (if x < y then y else x) (.head _)
      rcases List.mem_cons.mp hz with e | hz
      · rw [e]
        by_cases h : x < y
        · rw [if_pos h] at h0 ⊢; omega
        · rw [if_neg h] at h0 ⊢; omega
      · rcases List.mem_cons.mp hz with e | hz
        · rw [e]
          by_cases h : x < y
          · rw [if_pos h] at h0 ⊢; omega
          · rw [if_neg h] at h0 ⊢; omega
        · exact ih.2 z (.tail _ hz)
def rMaxDf (K : PySem.W.Frag) : List V → List V → Hp → VK → Prop := fun vs zs H Q => ∃ (a : Addr) (ns : List Int) (d : Int), vs = [V.ref a] ∧ zs = [.int d] ∧ SqL K H a (ns.map V.int) ∧ (ns = [] → Q (.int d) H) ∧ ∀ m, m ∈ ns → (∀ y ∈ ns, y ≤ m) → Q (.int m) H
theorem intsAll {h : Heap} : ∀ {vs : List Value} {ns : List Int}, Vals (ns.map V.int) vs → PySem.W.HoldAll h vs ns
  | _, [], .nil => ⟨_, .nil⟩
  | v :: vs, n :: ns, .cons r rs => by
    obtain ⟨t, rfl⟩ : ∃ t, v = .int n t := r
    obtain ⟨as, ih⟩ := intsAll rs
    exact ⟨_, .cons (.int n t) ih⟩
theorem crk_max {X : Cx} (hc : X.calm = true) (hu : X.A.units + 64 < cLine) : CallRK X (.builtin "max") ["default"] (rMaxDf X.K) := by
  intro pins s σ H xs zs us ws Q I r1 r2 ⟨a, ns, d, e1, e2, hs, q0, q1⟩
  subst e1 e2
  obtain ⟨its, rv, hl, _⟩ := I.list hs
  rw [Vals.ref1 r1]
  cases r2 with
  | cons rz rzs =>
    cases rzs
    obtain ⟨t, rfl⟩ := rz
    refine PySem.W.max_list_datum_default (α := Int) (I.ok.hd hc) hl.isList (intsAll rv) (by show X.A.units + 1 + 0 < cLine; omega) (fun e h' tk hk => ?_) fun y ys i v h' tk e hi hv hk => ?_
    · exact ⟨.int d, H, I.kept hk, ⟨t, rfl⟩, q0 e⟩
    · subst e
      obtain ⟨as, hv⟩ := hv
      obtain ⟨k1, k2⟩ := maxOf_go ys y
      have hv' : PySem.Reads h' v (.int (PySem.W.maxOf y ys)) as := hv
      cases hv' with
      | int _ t' => exact ⟨.int _, H, I.kept hk, ⟨t', rfl⟩, q1 _ k1 k2⟩
def gMaxD (k : Int) : List D → Option O
  | [.lst ds] => match intsD ds with
    | some [] => some (iO k)
    | some ns => (maxL ns).map iO
    | none => none
  | _ => none
theorem n_maxD {K : PySem.W.Frag} (k : Int) : SndN K (fun vs H Q => rMaxDf K vs [.int k] H Q) (gMaxD k) := fun B H vs ds o hx hr hg Q q => by
  unfold gMaxD at hg
  split at hg
  · split at hg
    · rename_i e
      cases hg
      obtain ⟨v, rfl, h⟩ := hr.one
      obtain ⟨p, xs, rfl, h1, h2⟩ := h
      rw [intsD_map e] at h2
      rw [repL_of_ints h2] at h1
      exact ⟨_, [], k, rfl, rfl, Evl.sq_of h1, fun _ => q.fr hx (.int _), fun m hm => (List.not_mem_nil hm).elim⟩
    · rename_i ns _ e
      obtain ⟨m, em, rfl⟩ := Option.map_eq_some_iff.mp hg
      obtain ⟨v, rfl, h⟩ := hr.one
      obtain ⟨p, xs, rfl, h1, h2⟩ := h
      rw [intsD_map e] at h2
      rw [repL_of_ints h2] at h1
      refine ⟨_, ns, k, rfl, rfl, Evl.sq_of h1, fun hn => ?_, fun j k1 k2 => ?_⟩
      · rw [hn] at em; cases em
      · rw [maxL_mem em k1 k2]; exact q.fr hx (.int _)
    · cases hg
  · cases hg
theorem gMaxD_n {k : Int} : gMaxD k [.lst []] = some (iO k) := nr rfl
theorem gMaxD_ints {k : Int} {ns : List Int} {m : Int} (h : maxL ns = some m) : gMaxD k [.lst (ns.map .int)] = some (iO m) := by
  have e : intsD (ns.map D.int) = some ns := by
    clear h
    induction ns with
    | nil => rfl
    | cons n ns ih => rw [List.map_cons]; unfold intsD; rw [ih]; rfl
  unfold gMaxD
  dsimp only
  rw [e]
  cases ns with
  | nil => cases h
  | cons n ns => dsimp only; rw [h]; rfl
section
variable {X : Cx} {W : WX} {e e2 : Expr} {pos p p1 p2 kp cp : Pos} {f g : M O} {q : P} {x : Str} {i : Nat} {k0 : Nat} {k : Int}
theorem d_maxD (hu : X.A.units + 64 < cLine) (hc : X.calm = true) (hg : Gl X "max") (hm : X.mg "max" = none) (ha : PE X e (tP X.K X.mg W q)) (hs : starEach [e] X.env = [(false, eval e X.env)] := by rfl)
    (he : backTo pos (starEach [e] X.env) = (false, eval e X.env) :: backTo pos (starEach [] X.env) := by rfl) (hpl : (backTo pos (starEach [e] X.env)).any (·.1) = false := by rfl)
    (hall : (backToKw pos (keywordEach [⟨some "default", .Constant (.int k) k0 cp, kp⟩] X.env)).all (·.1.isSome) = true := by rfl) (hnone : (backToKw pos (keywordEach [⟨some "default", .Constant (.int k) k0 cp, kp⟩] X.env)).any (·.1.isNone) = false := by rfl)
    (hks : (backToKw pos (keywordEach [⟨some "default", .Constant (.int k) k0 cp, kp⟩] X.env)).filterMap (·.1) = [(PySem.Str.ofString "default" : Str)] := by rfl) :
    PE X (.Call (.Name "max" p) [e] [⟨some "default", .Constant (.int k) k0 cp, kp⟩] pos) (tE X.K X.mg W (ap (gMaxD k) [q])) :=
  pe_imp (pe_callBK (crk_max hc hu) hg hm bt_max (pa_cons ha pa_nil hs) (pk_cons pe_int pk_nil) (by decide) (by decide) he hpl hall hnone hks) fun σ H Q h => apN_run (n_maxD k) _ h
end

/-! ## 51. Dicts whose keys are pairs of whole numbers and texts -/
def keyT : D → Option (List L2.Key)
  | .tup [a, b] => match keyD a, keyD b with
    | some x, some y => some [x, y]
    | _, _ => none
  | _ => none
def getKT : List (List L2.Key) → List D → List L2.Key → Option D
  | k :: ks, d :: ds, j => if k = j then some d else getKT ks ds j
  | _, _, _ => none
def hasKT (ks : List (List L2.Key)) (k : List L2.Key) : Bool := ks.any fun j => decide (j = k)
def putKTs (ks : List (List L2.Key)) (k : List L2.Key) : List (List L2.Key) := if hasKT ks k then ks else ks ++ [k]
def replT : List (List L2.Key) → List D → List L2.Key → D → List D
  | k :: ks, d :: ds, j, x => (if k = j then x else d) :: replT ks ds j x
  | _, _, _, _ => []
def putXTs (ks : List (List L2.Key)) (xs : List D) (k : List L2.Key) (x : D) : List D := if hasKT ks k then replT ks xs k x else xs ++ [x]
section
variable {K : PySem.W.Frag} {B B' H H' : Hp} {v : V} {d : D}
theorem keyD_rep {k : L2.Key} (h : Rep K B v d) (e : keyD d = some k) : v = kV k := by
  cases h with
  | int i => cases e; rfl
  | str z => cases e; rfl
  | _ => cases e
theorem keyT_rep {k : List L2.Key} (h : Rep K B v d) (hx : Ex B H) (e : keyT d = some k) : ∃ b, v = .ref b ∧ H b = some (.tup (k.map kV)) := by
  unfold keyT at e
  split at e
  · rename_i a b
    split at e
    · rename_i x y ex ey
      cases e
      cases h with
      | tup h1 h2 =>
        rename_i p xs
        cases h2 with
        | cons r1 r2 =>
          cases r2 with
          | cons r2 r3 =>
            cases r3
            rw [keyD_rep r1 ex, keyD_rep r2 ey] at h1
            rcases h1 with h1 | ⟨h1, _⟩
            · exact ⟨_, rfl, hx _ _ h1⟩
            · exact absurd h1 (by show ¬ (2 ≤ 1); omega)
    · cases e
  · cases e
theorem getKT_rep {k : List L2.Key} : ∀ {kv : List (List L2.Key × V)} {ks : List (List L2.Key)} {ds : List D}, kv.map (·.1) = ks → RepL K B (kv.map (·.2)) ds → (∀ d, getKT ks ds k = some d → ∃ v, valV kv k = some v ∧ Rep K B v d) ∧ (getKT ks ds k = none → valV kv k = none)
  | [], ks, ds, h, hr => by
    subst h
    cases hr
    exact ⟨fun d e => (by cases e), fun _ => rfl⟩
  | (j, x) :: kv, ks, ds, h, hr => by
    subst h
    cases hr with
    | cons hd hr =>
      rename_i d' ds'
      obtain ⟨i1, i2⟩ := getKT_rep (k := k) (kv := kv) rfl hr
      have e0 : valV ((j, x) :: kv) k = if j = k then some x else valV kv k := by
        unfold valV
        rw [List.find?_cons]
        by_cases ej : j = k
        · rw [decide_eq_true ej, if_pos ej]; rfl
        · rw [decide_eq_false ej, if_neg ej]
      have e1 : getKT (((j, x) :: kv).map (·.1)) (d' :: ds') k = if j = k then some d' else getKT (kv.map (·.1)) ds' k := rfl
      rw [e0, e1]
      by_cases ej : j = k
      · rw [if_pos ej, if_pos ej]
        exact ⟨fun d e => (by cases e; exact ⟨x, rfl, hd⟩), fun e => (by cases e)⟩
      · rw [if_neg ej, if_neg ej]
        exact ⟨i1, i2⟩
theorem hasKT_any (k : List L2.Key) (kv : List (List L2.Key × V)) : (kv.any fun p => decide (p.1 = k)) = hasKT (kv.map (·.1)) k := by
  unfold hasKT
  rw [List.any_map]; rfl
theorem putKT_ks (k : List L2.Key) (v : V) (kv : List (List L2.Key × V)) : (putK kv k v).map (·.1) = putKTs (kv.map (·.1)) k := by
  unfold putK putKTs
  rw [hasKT_any]
  by_cases h : hasKT (kv.map (·.1)) k = true
  · rw [if_pos h, if_pos h, List.map_map]
    refine List.map_congr_left fun p _ => ?_
    show (if p.1 = k then (p.1, v) else p).1 = p.1
    by_cases e : p.1 = k
    · rw [if_pos e]
    · rw [if_neg e]
  · rw [if_neg h, if_neg h, List.map_append]; rfl
theorem replT_rep (k : List L2.Key) {x : V} {dx : D} (hv : Rep K B x dx) : ∀ {kv : List (List L2.Key × V)} {ds : List D}, RepL K B (kv.map (·.2)) ds → RepL K B ((kv.map fun p => if p.1 = k then (p.1, x) else p).map (·.2)) (replT (kv.map (·.1)) ds k dx)
  | [], _, .nil => .nil
  | (j, y) :: kv, _, .cons hd hr => by
    have ih := replT_rep k hv hr
    rw [List.map_cons, List.map_cons, List.map_cons]
    unfold replT
    by_cases e : j = k
    · rw [if_pos e, if_pos e]; exact .cons hv ih
    · rw [if_neg e, if_neg e]; exact .cons hd ih
theorem putKT_xs (k : List L2.Key) {x : V} {dx : D} (hv : Rep K B x dx) {kv : List (List L2.Key × V)} {ds : List D} (hr : RepL K B (kv.map (·.2)) ds) : RepL K B ((putK kv k x).map (·.2)) (putXTs (kv.map (·.1)) ds k dx) := by
  unfold putK putXTs
  rw [hasKT_any]
  by_cases h : hasKT (kv.map (·.1)) k = true
  · rw [if_pos h, if_pos h]; exact replT_rep k hv hr
  · rw [if_neg h, if_neg h, List.map_append]; exact hr.append (.cons hv .nil)
theorem RepO.keep {o : O} {U : Addr → Prop} (h : RepO K B H v o U) (k : ∀ a u, U a → H a = some u → H' a = some u) : RepO K B H' v o U := by
  cases o with
  | fr d => exact h
  | lst ds => obtain ⟨p, xs, e, hp, hr, hs⟩ := h; exact ⟨p, xs, e, k p _ ((hs p).mpr rfl) hp, hr, hs⟩
  | dct _ _ => obtain ⟨p, kv, e, hp, hk, hr, hs⟩ := h; exact ⟨p, kv, e, k p _ ((hs p).mpr rfl) hp, hk, hr, hs⟩
  | ins _ _ _ => obtain ⟨p, C, dx, fs, e, hp, hc, hk, hr, hs⟩ := h; exact ⟨p, C, dx, fs, e, k p _ ((hs p).mpr rfl) hp, hc, hk, hr, hs⟩
  | exn a d x => exact h
  | tr t => exact RepT.frame (Ex.refl B) h k
/-- what slot i owns at l is written over -/
theorem Rp.mutT {σ : St} {e : Sl} {S : Nat → Addr → Prop} (r : Rp K B H σ e S) {i : Nat} {o o' : O} {l : Addr} {u u' : HO} (he : e[i]? = some (some o)) (hS : S i l) (hl : H l = some u) (hn : ∀ v, σ[i]? = some (some v) → RepO K B (L2.upd H l u') v o' (S i)) :
    Rp K B (L2.upd H l u') σ (e.set i (some o')) S ∧ Fr B H (tot S) B (L2.upd H l u') (tot S) := by
  have hb := (r.own i l hS).1
  have hlen : i < e.length := (List.getElem?_eq_some_iff.mp he).1
  refine ⟨⟨by rw [List.length_set]; exact r.len, fun a w ha => ?_, fun j w hw => ?_, r.dis, fun j a ha => ⟨(r.own j a ha).1, ?_⟩⟩, Fr.upd hl ⟨i, hS⟩⟩
  · rw [upd_ne (show a ≠ l from fun z => by subst z; rw [hb] at ha; cases ha)]; exact r.ex a w ha
  · by_cases hj : j = i
    · subst hj
      rw [List.getElem?_set_self hlen] at hw
      cases hw
      obtain ⟨v, hv, _⟩ := r.rep j _ he
      exact ⟨v, hv, hn v hv⟩
    · rw [List.getElem?_set_ne (Ne.symm hj)] at hw
      obtain ⟨v, a1, a2⟩ := r.rep j w hw
      exact ⟨v, a1, a2.keep fun a q z hq => by rw [upd_ne (show a ≠ l from fun y => hj (r.dis j i a z (by rw [y]; exact hS)))]; exact hq⟩
  · by_cases hp : a = l
    · exact ⟨_, by rw [hp]; exact upd_same⟩
    · obtain ⟨_, w, h⟩ := r.own j a ha
      exact ⟨w, by rw [upd_ne hp]; exact h⟩
end
def eDctT : M O := M.pure (.tr (.dtt [] []))
/-- k in x, k not in x: x a dict of one's own -/
def eInT (neg : Bool) (i : Nat) (f : M O) : M O := f.bind fun o e => match e[i]? with
  | some (some (.tr (.dtt ks xs))) => match keyT o.d with
    | some k => some (.ok (bO (if neg then !(getKT ks xs k).isSome else (getKT ks xs k).isSome)) e)
    | none => none
  | _ => none
def eGetT (i : Nat) (f : M O) : M O := fun e => match e[i]? with
  | some (some (.tr (.dtt _ _))) => (f.bind fun o e1 => match e1[i]? with
    | some (some (.tr (.dtt ks xs))) => match keyT o.d with
      | some k => (getKT ks xs k).map fun d => .ok (.fr d) e1
      | none => none
    | _ => none) e
  | _ => none
def eLenT (i : Nat) : M O := fun e => match e[i]? with
  | some (some (.tr (.dtt ks _))) => some (.ok (iO ks.length) e)
  | _ => none
def sPutT (i : Nat) (f g : M O) : M Fl := g.bind fun o e1 => match e1[i]? with
  | some (some (.tr (.dtt _ _))) => (f.bind fun ko e2 => match e2[i]? with
    | some (some (.tr (.dtt ks xs))) => match keyT ko.d with
      | some k => if ks.length < sizeLine then some (.ok .next (e2.set i (some (.tr (.dtt (putKTs ks k) (putXTs ks xs k o.d)))))) else none
      | none => none
    | _ => none) e1
  | _ => none
def rInT2 (neg : Bool) : R2 := fun x y H Q => ∃ a o, y = .ref a ∧ DGet H a x o ∧ Q (.bl (if neg then !o.isSome else o.isSome)) H
section
variable {X : Cx} {W : WX} {e e2 k : Expr} {pos p p1 p2 : Pos} {f g : M O} {x : Str} {i : Nat} {ks : List Nat}
theorem o_inTT (hu : X.A.units + 1 < cLine) : OpR X (compareOp .In) (rInT2 false) := by
  intro pins s σ H x y v u Q I rx ry ⟨a, o, e, h, q⟩
  subst e
  cases ry
  exact d_in hu I h rx fun s' I' => ⟨.bl _, H, I', rfl, q⟩
theorem o_notinTT (hu : X.A.units + 1 < cLine) : OpR X (compareOp .NotIn) (rInT2 true) := by
  intro pins s σ H x y v u Q I rx ry ⟨a, o, e, h, q⟩
  subst e
  cases ry
  exact d_notIn hu I h rx fun s' I' => ⟨.bl _, H, I', rfl, q⟩
theorem d_dctT : PE X (.Dict [] [] pos) (tE X.K X.mg W eDctT) := pe_imp pe_dnewT fun σ H Q h => by
  obtain ⟨B, e, S, r, h⟩ := h
  intro p hp
  have g := Gr.own r.ex hp (.dT [])
  refine (show ∀ v B' H' S' T, Vl X.K B' H' σ e S' v (.tr (.dtt [] [])) T → Fr B H (tot S) B' H' (fun a => T a ∨ tot S' a) → Q v H' from h) (.ref p) B _ S (fun a => a = p) ⟨r.grow g, .dtt upd_same rfl .nil fun a => Iff.rfl, fun a e => ?_, fun a e ⟨j, hj⟩ => ?_⟩ ⟨g.b, fun a o q _ => g.h a o q, fun a z => z.elim (fun z => .inr (by rw [z]; exact hp)) .inl, fun a u q => (g.c a u q).elim .inl fun z => .inr (.inr z), fun a u q => ⟨u, g.h a u q⟩⟩
  · subst e
    refine ⟨?_, _, upd_same⟩
    cases q : B a with
    | none => rfl
    | some u => have := r.ex a u q; rw [hp] at this; cases this
  · subst e
    obtain ⟨_, u, hu⟩ := r.own j a hj
    rw [hp] at hu; cases hu
/-- the dict in slot i, and the key -/
theorem dtt_at {K : PySem.W.Frag} {B H : Hp} {σ : St} {e : Sl} {S : Nat → Addr → Prop} {ks : List (List L2.Key)} {xs : List D} (r : Rp K B H σ e S) (h : e[i]? = some (some (.tr (.dtt ks xs)))) :
    ∃ p kv, σ[i]? = some (some (.ref p)) ∧ S i p ∧ H p = some (.dT kv) ∧ kv.map (·.1) = ks ∧ RepL K B (kv.map (·.2)) xs ∧ ∀ a, S i a ↔ a = p := by
  obtain ⟨v, hv, ro⟩ := r.rep i _ h
  cases (show RepT K B H v (.dtt ks xs) (S i) from ro) with
  | dtt a b c d => exact ⟨_, _, hv, (d _).mpr rfl, a, b, c, d⟩
theorem inT_run {neg : Bool} {σ : St} {H : Hp} {Q : VK} (h : tE X.K X.mg W (eInT neg i f) σ H Q) : tOp (rInT2 neg) (tE X.K X.mg W f) (tVar i) σ H Q := by
  obtain ⟨B, e, S, r, h⟩ := h
  refine ⟨B, e, S, r, h.bind.imp (fun o e1 h v1 B1 H1 S1 T vl f1 => ?_) fun _ _ z => z⟩
  obtain ⟨B2, vl2, f2⟩ := vl.freeze
  have f3 := fz_fr f1 f2
  cases q : e1[i]? with
  | none => rw [q] at h; exact h.elim
  | some u =>
    cases u with
    | none => rw [q] at h; exact h.elim
    | some o1 =>
      rw [q] at h
      cases o1 with
      | tr t =>
        cases t with
        | dtt ks xs =>
          dsimp only at h
          cases hk : keyT o.d with
          | none => rw [hk] at h; exact h.elim
          | some k =>
            rw [hk] at h
            obtain ⟨p, kv, hv, _, hp, ek, hr, _⟩ := dtt_at vl2.rp q
            obtain ⟨b, eb, hb⟩ := keyT_rep vl2.ro.1 vl2.rp.ex hk
            subst eb ek
            obtain ⟨g1, g2⟩ := getKT_rep (k := k) rfl hr
            refine ⟨_, hv, p, _, rfl, DGet.t hp hb, ?_⟩
            have es : (valV kv k).isSome = (getKT (kv.map (·.1)) xs k).isSome := by
              cases hg : getKT (kv.map (·.1)) xs k with
              | none => rw [g2 hg]; rfl
              | some d => obtain ⟨w, hw, _⟩ := g1 d hg; rw [hw]; rfl
            rw [es]
            exact (show ∀ v B' H' S' T, Vl X.K B' H' σ e1 S' v (bO (if neg then !(getKT (kv.map (·.1)) xs k).isSome else (getKT (kv.map (·.1)) xs k).isSome)) T → Fr B H (tot S) B' H' (fun a => T a ∨ tot S' a) → Q v H' from h) _ B2 H1 S1 noS (.fr vl2.rp (.bl _)) (f3.imp (fun _ z => z) fun a z => z.elim (fun z => z.elim) id)
        | _ => exact h.elim
      | _ => exact h.elim
theorem d_inT (hu : X.A.units + 64 < cLine) (ha : PE X e (tE X.K X.mg W f)) (hv : PE X (.Name x p) (tVar i)) (hm : behindInMarks .In (.Name x p) = false := by rfl) : PE X (.Compare e [.In] [.Name x p] pos) (tE X.K X.mg W (eInT false i f)) :=
  pe_imp (pe_cmpR (o_inTT (by omega)) ha hv hm) fun _ _ _ h => inT_run h
theorem d_notinT (hu : X.A.units + 64 < cLine) (ha : PE X e (tE X.K X.mg W f)) (hv : PE X (.Name x p) (tVar i)) (hm : behindInMarks .NotIn (.Name x p) = false := by rfl) : PE X (.Compare e [.NotIn] [.Name x p] pos) (tE X.K X.mg W (eInT true i f)) :=
  pe_imp (pe_cmpR (o_notinTT (by omega)) ha hv hm) fun _ _ _ h => inT_run h
theorem d_getT (hu : X.A.units + 64 < cLine) (hv : PE X (.Name x p) (tVar i)) (ha : PE X e (tE X.K X.mg W f)) (hs : NoSl e := by intro _ _; rfl) : PE X (.Subscript (.Name x p) e pos) (tE X.K X.mg W (eGetT i f)) :=
  pe_imp (pe_dget (by omega) hv ha hs) fun σ H Q h => by
    obtain ⟨B, e, S, r, h⟩ := h
    unfold eGetT at h
    cases q0 : e[i]? with
    | none => rw [q0] at h; exact h.elim
    | some u0 =>
      rw [q0] at h
      cases u0 with
      | none => exact h.elim
      | some o0 =>
        cases o0 with
        | tr t0 =>
          cases t0 with
          | dtt ks0 xs0 =>
            obtain ⟨p0, kv0, hv0, _⟩ := dtt_at r q0
            refine ⟨_, hv0, B, e, S, r, (show Post (M.bind f _ e) _ _ from h).bind.imp (fun o e1 h v1 B1 H1 S1 T vl f1 => ?_) fun _ _ z => z⟩
            obtain ⟨B2, vl2, f2⟩ := vl.freeze
            have f3 := fz_fr f1 f2
            cases q : e1[i]? with
            | none => rw [q] at h; exact h.elim
            | some u =>
              cases u with
              | none => rw [q] at h; exact h.elim
              | some o1 =>
                rw [q] at h
                cases o1 with
                | tr t =>
                  cases t with
                  | dtt ks xs =>
                    dsimp only at h
                    cases hk : keyT o.d with
                    | none => rw [hk] at h; exact h.elim
                    | some k =>
                      rw [hk] at h
                      obtain ⟨p, kv, hv, _, hp, ek, hr, _⟩ := dtt_at vl2.rp q
                      rw [hv0] at hv
                      cases hv
                      obtain ⟨b, eb, hb⟩ := keyT_rep vl2.ro.1 vl2.rp.ex hk
                      subst eb ek
                      obtain ⟨g1, g2⟩ := getKT_rep (k := k) rfl hr
                      cases hg : getKT (kv.map (·.1)) xs k with
                      | none => dsimp only at h; rw [hg] at h; exact h.elim
                      | some d =>
                        dsimp only at h
                        rw [hg] at h
                        obtain ⟨w, hw, hd⟩ := g1 d hg
                        refine ⟨p0, w, rfl, by rw [← hw]; exact DGet.t hp hb, ?_⟩
                        exact (show ∀ v B' H' S' T, Vl X.K B' H' σ e1 S' v (.fr d) T → Fr B H (tot S) B' H' (fun a => T a ∨ tot S' a) → Q v H' from h) _ B2 H1 S1 noS (.fr vl2.rp hd) (f3.imp (fun _ z => z) fun a z => z.elim (fun z => z.elim) id)
                  | _ => exact h.elim
                | _ => exact h.elim
          | _ => exact h.elim
        | _ => exact h.elim
theorem d_lenT {fp : Pos} (hg : Gl X "len") (hm : X.mg "len" = none) (hv : PE X (.Name x p) (tVar i)) (hs : starEach [.Name x p] X.env = [(false, eval (.Name x p) X.env)] := by rfl) (hpl : (backTo pos (starEach [] X.env)).any (·.1) = false := by rfl) :
    PE X (.Call (.Name "len" fp) [.Name x p] [] pos) (tE X.K X.mg W (eLenT i)) :=
  pe_imp (pe_callB call_len_dT hg hm bt_len (pa_cons hv pa_nil hs) (by decide) (by decide) hs hpl) fun σ H Q h => by
    obtain ⟨B, e, S, r, h⟩ := h
    unfold eLenT at h
    cases q : e[i]? with
    | none => rw [q] at h; exact h.elim
    | some u =>
      rw [q] at h
      cases u with
      | none => exact h.elim
      | some o1 =>
        cases o1 with
        | tr t =>
          cases t with
          | dtt ks xs =>
            obtain ⟨p, kv, hv, _, hp, ek, hr, _⟩ := dtt_at r q
            refine ⟨_, hv, p, kv, rfl, hp, ?_⟩
            have el : kv.length = ks.length := by rw [← ek, List.length_map]
            rw [el]
            exact (show ∀ v B' H' S' T, Vl X.K B' H' σ e S' v (iO ks.length) T → Fr B H (tot S) B' H' (fun a => T a ∨ tot S' a) → Q v H' from h) _ B H S noS (.fr r (.int _)) ((Fr.refl _ _ _).imp (fun _ z => z) fun a z => z.elim (fun z => z.elim) id)
          | _ => exact h.elim
        | _ => exact h.elim
theorem s_putT (hu : X.A.units + 64 < cLine) (hv : PE X (.Name x p) (tVar i)) (hk : PE X k (tE X.K X.mg W f)) (he : PE X e (tE X.K X.mg W g)) (hs : swapsWith e (some (.Subscript (.Name x p) k p2)) pos.line X.env = pure false := by rfl) :
    PS X (.Assign [.Subscript (.Name x p) k p2] e pos) (tS X.K X.mg W ks (sPutT i f g)) := ps_imp (ps_dput (by omega) hv hk he hs) fun D σ H h => by
  obtain ⟨B, e, S, r, h⟩ := h
  refine ⟨B, e, S, r, h.bind.imp (fun o e1 h v1 B1 H1 S1 T vl f1 => ?_) fun _ _ z => ExS.toE z⟩
  obtain ⟨B2, vl2, f2⟩ := vl.freeze
  have f3 := fz_fr f1 f2
  cases q : e1[i]? with
  | none => rw [q] at h; exact h.elim
  | some u =>
    rw [q] at h
    cases u with
    | none => exact h.elim
    | some o1 =>
      cases o1 with
      | tr t1 =>
        cases t1 with
        | dtt ks0 xs0 =>
          obtain ⟨p0, kv0, hv0, _⟩ := dtt_at vl2.rp q
          refine ⟨_, hv0, B2, e1, S1, vl2.rp, (show Post (M.bind f _ e1) _ _ from h).bind.imp (fun ko e2 h v2 B3 H3 S3 T3 vl3 f4 => ?_) fun x e2 z => ExS.toE (ExS.step z (Kp.refl _ _) f3)⟩
          obtain ⟨B4, vl4, f5⟩ := vl3.freeze
          have f6 := fz_fr f4 f5
          cases q1 : e2[i]? with
          | none => rw [q1] at h; exact h.elim
          | some u1 =>
            cases u1 with
            | none => rw [q1] at h; exact h.elim
            | some o2 =>
              rw [q1] at h
              cases o2 with
              | tr t2 =>
                cases t2 with
                | dtt ks1 xs1 =>
                  dsimp only at h
                  cases hkk : keyT ko.d with
                  | none => rw [hkk] at h; exact h.elim
                  | some kk =>
                    rw [hkk] at h
                    dsimp only at h
                    by_cases hl : ks1.length < sizeLine
                    · rw [if_pos hl] at h
                      obtain ⟨p, kv, hv, hS, hp, ek, hr, hSi⟩ := dtt_at vl4.rp q1
                      rw [hv0] at hv
                      cases hv
                      obtain ⟨b, eb, hb⟩ := keyT_rep vl4.ro.1 vl4.rp.ex hkk
                      subst eb ek
                      have hl' : kv.length < sizeLine := by rw [List.length_map] at hl; exact hl
                      refine ⟨p0, _, rfl, DPut.t hp hb hl', ?_⟩
                      obtain ⟨r5, f7⟩ := vl4.rp.mutT (o' := .tr (.dtt (putKTs (kv.map (·.1)) kk) (putXTs (kv.map (·.1)) xs1 kk o.d))) q1 hS hp (u' := .dT (putK kv kk v1)) (fun w hw => by
                        rw [hv0] at hw
                        cases hw
                        exact .dtt upd_same (putKT_ks kk v1 kv) (putKT_xs kk (vl2.ro.1.mono f6.b) hr) hSi)
                      exact (show Nd X.K D ks B H S σ .next _ from h) σ B4 _ S3 r5 (Kp.refl _ _) ((f3.trans f6).trans f7)
                    · rw [if_neg hl] at h; exact h.elim
                | _ => exact h.elim
              | _ => exact h.elim
        | _ => exact h.elim
      | _ => exact h.elim
end
end Dn

namespace Dn
open PySem L2 PyProof.Rows
open Evl (Ex)

/-! ## 52. zip of a tuple and a list -/
section
variable {prog : Program} {w : World} {A : Around} {E : Value → Shared → Prop} {s : Shared}
theorem drawT (hh : A.handled = none) (it t : Addr) (ne : t ≠ it) (us : Array Value) : Draws prog w A it [it, t] us.size (fun i v => us[i]? = some v)
    (fun i h => h.IsTupleIter it t i ∧ h.IsTuple t us) := by
  constructor
  · rintro i h ⟨⟨o, ho, _⟩, _⟩
    exact ⟨o, ho⟩
  · rintro i h h' ⟨z1, z2⟩ k
    obtain ⟨o, ho, z2⟩ := z2
    exact ⟨z1.at (k it (.head _)), o, k t (.tail _ (.head _)) o ho, z2⟩
  · rintro i s Q E hi ⟨z1, z2⟩ q
    have e : us[i]? = some us[i] := by simp [hi]
    refine RZ.nextOf_tuple_item z1 z2 e fun h' y1 y2 => q _ h' s.toks e ⟨y1, ?_⟩ y2
    obtain ⟨o, ho, z2⟩ := z2
    exact ⟨o, y2.extBut _ _ ne ho, z2⟩
  · rintro s Q E ⟨z1, z2⟩ q
    exact RZ.nextOf_tuple_end hh z1 z2 (by simp) q
/-- the heap behind zip(t, l): the two iterators, the pair of them, the pair handed out, the zip -/
def zmH (h : Heap) (t l : Addr) : Heap :=
  let n := h.objs.size
  ((((h.push { cls := .type "tuple_iterator", data := .fields #[.ref t, .int 0 0] }).push { cls := .type "list_iterator", data := .fields #[.ref l, .int 0 0] }).push { cls := .type "tuple", data := .seq #[.ref n, .ref (n + 1)] }).push { cls := .type "tuple", data := .seq #[.none, .none] }).push
    { cls := .type "zip", data := .fields #[.none, .bool false, .bool false, .ref (n + 2), .ref (n + 3)] }
theorem zm_new (t l : Addr) (us ws : Array Value) : Meets (Builtin.«zip.__new__» ⟨[.type "zip", .ref t, .ref l], []⟩) (fun _ R s => s.heap.IsTuple t us ∧ s.heap.IsList l ws ∧ R (.ok (.ret (.ref (s.heap.objs.size + 4)))) { s with heap := zmH s.heap t l }) := .of_wp fun prog w A R s z => by
    obtain ⟨hp, g, d, tk, os⟩ := s
    obtain ⟨z1, z2, z3⟩ := z
    have zz := sub_zip
    have y1 : Heap.IsTuple (Shared.heap ⟨hp, g, d, tk, os⟩) t us := z1
    have y2 : Heap.IsList (Shared.heap ⟨hp.push { cls := .type "tuple_iterator", data := .fields #[.ref t, .int 0 0] }, g, d, tk, os⟩) l ws := by
      obtain ⟨o, ho, z2⟩ := z2
      exact ⟨o, Heap.get?_push_of_some _ ho, z2⟩
    wp_walk using wpAny_pyIter_tuple y1, wpAny_pyIter_list y2
    have e1 : ∀ (h : Heap) (o : Obj), (h.push o).objs.size = h.objs.size + 1 := fun h o => Heap.size_push ..
    refine ⟨_, rfl, ?_⟩
    unfold zmH at z3
    simp only [e1] at z3 ⊢
    exact z3
theorem zm_call {t l : Addr} {us ws : Array Value} {Q : Value → Shared → Prop} (z1 : s.heap.IsTuple t us) (z2 : s.heap.IsList l ws)
    (q : ∀ h', IsZip h' (s.heap.objs.size + 4) (s.heap.objs.size + 2) (s.heap.objs.size + 3) .none → IsTupOf2 h' (s.heap.objs.size + 2) (.ref s.heap.objs.size) (.ref (s.heap.objs.size + 1)) → IsTupOf2 h' (s.heap.objs.size + 3) .none .none →
      h'.IsTupleIter s.heap.objs.size t 0 → h'.IsListIter (s.heap.objs.size + 1) l 0 → (∀ c o, s.heap.get? c = some o → h'.get? c = some o) → Q (.ref (s.heap.objs.size + 4)) { s with heap := h' }) : wpAny (model prog w) A (call (.type "zip") [.ref t, .ref l]) Q E s := by
  refine callType_new F.called_zip (by decide) (F.typeCall_zip_2 _ _) (F.newCall_zip_2 _ _) (fun u => F.args_object_init_3 u _ _) F.entry_zip_new (zm_new t l us ws) ⟨z1, z2, ?_⟩
  have e1 : ∀ (h : Heap) (o : Obj), (h.push o).objs.size = h.objs.size + 1 := fun h o => Heap.size_push ..
  have g : ∀ (h : Heap) (o : Obj) (n : Nat), o.isFreed = false → n = h.objs.size → (h.push o).get? n = some o := fun h o n hf e => by rw [e]; exact Heap.get?_push_size _ hf
  have up : ∀ (h : Heap) (o u : Obj) (a : Addr), h.get? a = some u → (h.push o).get? a = some u := fun h o u a e => Heap.get?_push_of_some _ e
  have g4 : (zmH s.heap t l).get? (s.heap.objs.size + 4) = some { cls := .type "zip", data := .fields #[.none, .bool false, .bool false, .ref (s.heap.objs.size + 2), .ref (s.heap.objs.size + 3)] } := g _ _ _ rfl (by simp only [e1])
  have g0 : (zmH s.heap t l).get? s.heap.objs.size = some { cls := .type "tuple_iterator", data := .fields #[.ref t, .int 0 0] } := up _ _ _ _ (up _ _ _ _ (up _ _ _ _ (up _ _ _ _ (g _ _ _ rfl rfl))))
  have g1 : (zmH s.heap t l).get? (s.heap.objs.size + 1) = some { cls := .type "list_iterator", data := .fields #[.ref l, .int 0 0] } := up _ _ _ _ (up _ _ _ _ (up _ _ _ _ (g _ _ _ rfl (by simp only [e1]))))
  refine ⟨⟨_, g4, rfl⟩, q (zmH s.heap t l) g4 ?_ ?_ ⟨_, g0, rfl, rfl⟩ ⟨_, g1, rfl, rfl⟩ fun c o e => ?_⟩
  · exact up _ _ _ _ (up _ _ _ _ (g _ _ _ rfl (by simp only [e1])))
  · exact up _ _ _ _ (g _ _ _ rfl (by simp only [e1]))
  · exact up _ _ _ _ (up _ _ _ _ (up _ _ _ _ (up _ _ _ _ (up _ _ _ _ e))))
end
/-- the tuple at a and the list at b as they stand at each turn, the items in new pairs -/
def ItM (K : PySem.W.Frag) (a b : Addr) : It where
  go i H := ∃ (us ws : List V) (x y : V), SqT K H a us ∧ SqL K H b ws ∧ us[i]? = some x ∧ ws[i]? = some y
  yld i H v H' := ∃ T x y, v = .ref T ∧ H T = none ∧ H' = L2.upd H T (.tup [x, y]) ∧ (∀ us, SqT K H a us → us[i]? = some x) ∧ ∀ ws, SqL K H b ws → ws[i]? = some y
  stop i H := ∃ us ws : List V, SqT K H a us ∧ SqL K H b ws ∧ i ≤ us.length ∧ i ≤ ws.length ∧ (i = us.length ∨ i = ws.length)
section
variable {P : Program} {w : World} {K : PySem.W.Frag} {elts : List Expr} {kk : Nat} {tpos : Pos} {a b : Addr}
theorem in4 {c z q r i1 i2 : Addr} (h : c ∈ [z, q, r, i1, i2]) : c = z ∨ c = q ∨ c = r ∨ c = i1 ∨ c = i2 := by simpa using h
def zmT (a b z TI TO i1 i2 : Addr) (i : Nat) (h : Heap) : Prop := IsZip h z TI TO .none ∧ IsTupOf2 h TI (.ref i1) (.ref i2) ∧ (∃ x y, IsTupOf2 h TO x y) ∧ h.IsTupleIter i1 a i ∧ h.IsListIter i2 b i
theorem turnM {z TI TO i1 i2 : Addr} (D : ZipApart z TI TO i1 i2 a b) : Turn P w K (.Tuple elts kk tpos) (ItM K a b) [z, TI, TO, i1, i2] z (zmT a b z TI TO i1 i2) := by
  have S : ZipSep2 z TI TO i1 i2 [i1, a] [i2, b] := ⟨D.TIz, D.TOz, D.TITO, D.TIi1, .head _, by simp [D.i1z.symm, D.l1z.symm], by simp [D.TOi1, D.l1TO.symm], D.TIi2, .head _, by simp [D.i2z.symm, D.l2z.symm], by simp [D.TOi2, D.l2TO.symm], by simp [D.i12, D.l2i1.symm], by simp [D.i12.symm, D.l1i2.symm]⟩
  constructor
  · exact .head _
  · rintro i h ⟨z1, z2, ⟨x, y, z3⟩, ⟨o1, z4, _, z5⟩, ⟨o2, z6, _, z7⟩⟩ c hc
    rcases in4 hc with e | e | e | e | e
    · exact e ▸ ⟨_, z1, fun v q => nomatch q⟩
    · exact e ▸ ⟨_, z2, fun v q => nomatch q⟩
    · exact e ▸ ⟨_, z3, fun v q => nomatch q⟩
    · exact e ▸ ⟨o1, z4, fun v q => by rw [z5] at q; cases q⟩
    · exact e ▸ ⟨o2, z6, fun v q => by rw [z7] at q; cases q⟩
  · rintro i h h' ⟨z1, z2, ⟨x, y, z3⟩, z4, z5⟩ k
    exact ⟨k z (by simp) _ z1, k TI (by simp) _ z2, ⟨x, y, k TO (by simp) _ z3⟩, z4.at fun o q => k i1 (by simp) o q, z5.at fun o q => k i2 (by simp) o q⟩
  · intro X hP hw hK hc i pins s σ H E I hf ⟨z1, z2, ⟨x0, y0, z3⟩, z4, z5⟩ ⟨us, ws, x, y, k1, k2, k3, k4⟩
    subst hP hw hK
    obtain ⟨v1, r1, t1, _⟩ := I.tuple k1
    obtain ⟨v2, r2, t2, _⟩ := I.list k2
    have len1 := r1.length
    have len2 := r2.length
    have lt1 := (List.getElem?_eq_some_iff.mp k3).1
    have lt2 := (List.getElem?_eq_some_iff.mp k4).1
    have hh : X.A.in1.handled = none := I.ok.hd hc
    refine wpAny_pyNext_zipD2_item S (drawT hh i1 a D.l1i1 v1.toArray) (Draws.list hh i2 b D.l2i2 v2.toArray) z1 z2 z3 ⟨z4, t1⟩ ⟨z5, t2.isList⟩ (by simp; omega) (by simp; omega) fun u1 u2 h' tk e1 e2 y1 y2 y3 y4 y5 hsz hk => ?_
    refine ⟨_, rfl, wpAny_letOwnedTupleGo_zip (s := { s with heap := h', toks := tk }) y1 fun h2 y6 sb => ?_⟩
    have lz : z < s.heap.objs.size := Heap.lt_size z1
    have nw : h2.get? s.heap.objs.size = some { cls := .type "tuple", data := .seq #[u1, u2] } := (sb.2 _ (Nat.ne_of_gt lz)).trans y5
    obtain ⟨w1, e3, q1⟩ := r1.get k3
    obtain ⟨w2, e4, q2⟩ := r2.get k4
    have f1 : w1 = u1 := by have e1' : v1[i]? = some u1 := by simpa using e1
                            rw [e1'] at e3; injection e3 with e3; exact e3.symm
    have f2 : w2 = u2 := by have e2' : v2[i]? = some u2 := by simpa using e2
                            rw [e2'] at e4; injection e4 with e4; exact e4.symm
    subst f1 f2
    have ob : ObjOk X.prog X.w (L2.upd H s.heap.objs.size (.tup [x, y])) h2 s.heap.objs.size (.tup [x, y]) := ⟨by show 2 ≤ sizeLine; decide, [w1, w2], .cons q1 (.cons q2 .nil), ⟨_, nw, rfl, _, rfl⟩⟩
    have kp : ∀ c o, c ∉ [z, TI, TO, i1, i2] → s.heap.get? c = some o → h2.get? c = some o := fun c o hb q => by
      have n : ∀ d, d ∈ [z, TI, TO, i1, i2] → c ≠ d := fun d hd e => hb (e ▸ hd)
      exact (sb.2 c (n z (by simp))).trans (hk c o (n z (by simp)) (n TO (by simp)) (n i1 (by simp)) (n i2 (by simp)) q)
    have I2 := I.turnedNew (t' := tk) kp hf (Nat.le_refl _) ob
    refine ⟨.ref s.heap.objs.size, _, I2, rfl, ⟨_, x, y, rfl, I.hok.fresh (Nat.le_refl _), rfl, fun l hl => by rw [I.tuple_inj hl k1]; exact k3, fun l hl => by rw [I.list_inj hl k2]; exact k4⟩, ⟨y6, ?_, ⟨_, _, (sb.2 _ D.TOz).trans y2⟩, ?_, ?_⟩, fun c hcm => ?_⟩
    · exact (sb.2 _ D.TIz).trans (hk _ _ D.TIz D.TITO D.TIi1 D.TIi2 z2)
    · exact y3.1.at fun o q => (sb.2 _ D.i1z).trans q
    · exact y4.1.at fun o q => (sb.2 _ D.i2z).trans q
    · have lt : c < s.heap.objs.size := by
        rcases in4 hcm with e | e | e | e | e
        · rw [e]; exact lz
        · rw [e]; exact Heap.lt_size z2
        · rw [e]; exact Heap.lt_size z3
        · rw [e]; obtain ⟨_, z4, _⟩ := z4; exact Heap.lt_size z4
        · rw [e]; obtain ⟨_, z5, _⟩ := z5; exact Heap.lt_size z5
      rw [upd_ne (show c ≠ s.heap.objs.size from Nat.ne_of_lt lt)]
      exact (hf c hcm).1
  · intro X hP hw hK hc i pins s σ H E I hf ⟨z1, z2, ⟨x0, y0, z3⟩, z4, z5⟩ ⟨us, ws, k1, k2, l1, l2, l3⟩
    subst hP hw hK
    obtain ⟨v1, r1, t1, _⟩ := I.tuple k1
    obtain ⟨v2, r2, t2, _⟩ := I.list k2
    have hh : X.A.in1.handled = none := I.ok.hd hc
    have len1 := r1.length
    have len2 := r2.length
    exact wpAny_pyNext_zipD2_end S (drawT hh i1 a D.l1i1 v1.toArray) (Draws.list hh i2 b D.l2i2 v2.toArray) z1 z2 z3 ⟨z4, t1⟩ ⟨z5, t2.isList⟩ (by simp; omega) (by simp; omega) (by simp; omega) fun h' tk hk => ⟨rfl, I.turnedL (t' := tk) (fun c o hb q => by
      have n : ∀ d, d ∈ [z, TI, TO, i1, i2] → c ≠ d := fun d hd e => hb (e ▸ hd)
      exact hk c o (n z (by simp)) (n TO (by simp)) (n i1 (by simp)) (n i2 (by simp)) q) hf⟩
  · intro A i s Q E st q
    exact wpAny_pyIter_zip st.1 q
end
def iZipM (K : PySem.W.Frag) (ta : TA) : TI := fun σ H R => ta σ H fun vs H1 => ∃ a b us ws, vs = [.ref a, .ref b] ∧ SqT K H1 a us ∧ SqL K H1 b ws ∧ R (ItM K a b) H1
section
variable {X : Cx} {W : WX} {e e2 : Expr} {ta : TA} {p pos tpos : Pos} {elts : List Expr} {kk : Nat} {f g : M O}
theorem pi_zipM (hg : Gl X "zip") (hm : X.mg "zip" = none) (ha : PA X [e, e2] ta) (hs : starEach [e, e2] X.env = (false, eval e X.env) :: starEach [e2] X.env := by rfl) (hpl : (backTo pos (starEach [e2] X.env)).any (·.1) = false := by rfl) :
    PI X (.Tuple elts kk tpos) (.Call (.Name "zip" p) [e, e2] [] pos) (iZipM X.K ta) := by
  refine ⟨fun pins s σ H R I h => ?_⟩
  refine Call_ (ld_blt I hg hm boot_zip (callWith_type1 (thn (ha.run pos pins s σ H _ I h) fun us s1 ⟨vs, H1, I1, r1, a, b, xs, ys, ex, k1, k2, q⟩ => ?_) hs hpl))
  subst ex
  cases r1 with
  | cons r rr =>
    cases rr with
    | cons r' rr =>
      cases rr
      cases r
      cases r'
      obtain ⟨v1, r1, t1, _⟩ := I1.tuple k1
      obtain ⟨v2, r2, t2, _⟩ := I1.list k2
      obtain ⟨o1, ho1, _⟩ := id t1
      refine zm_call t1 t2.isList fun h' y1 y2 y3 y4 y5 hk => wpAny_pyIter_zip y1 ?_
      have I2 : Inv X pins σ H1 { s1 with heap := h' } := I1.kept (t' := s1.toks) hk
      refine ⟨s1.heap.objs.size + 4, _, _, _, H1, rfl, I2, turnM (PySem.W.ktu_apart s1.heap.objs.size a b (Heap.lt_size ho1) t2.lt), ⟨y1, y2, ⟨_, _, y3⟩, y4, y5⟩, fun c hc => ?_, q⟩
      have le : s1.heap.objs.size ≤ c := by
        rcases in4 hc with e | e | e | e | e <;> rw [e] <;> (first | exact Nat.le_refl _ | exact Nat.le_add_right _ _)
      exact I1.fpOk le (I1.hok.fresh le)
theorem walkM {K : PySem.W.Frag} {a b : Addr} {us ws : List V} {n : Nat} (hn : n = min us.length ws.length) : Walk (ItM K a b) n (fun H => SqT K H a us ∧ SqL K H b ws) (YPair (fun i => us[i]?) (fun i => ws[i]?)) := by
  subst hn
  constructor
  · rintro i H hi ⟨q1, q2⟩
    have l1 : i < us.length := by omega
    have l2 : i < ws.length := by omega
    exact ⟨us, ws, us[i], ws[i], q1, q2, List.getElem?_eq_getElem l1, List.getElem?_eq_getElem l2⟩
  · rintro H ⟨q1, q2⟩
    exact ⟨us, ws, q1, q2, by omega, by omega, by omega⟩
  · rintro i H v H' _ ⟨q1, q2⟩ ⟨T, x, y, e1, e2, e3, e4, e5⟩
    exact ⟨T, x, y, e1, e2, e3, e4 us q1, e5 ws q2⟩
theorem walkD_zipM {K : PySem.W.Frag} {B H : Hp} {a b : Addr} {us ws : List V} {ds es : List D} (h1 : SqT K B a us) (h2 : SqL K B b ws) (r1 : RepL K B us ds) (r2 : RepL K B ws es) : WalkD K (ItM K a b) B (zipD ds es) := by
  refine ⟨_, _, walkM (us := us) (ws := ws) (by rw [zipD_len, r1.length, r2.length]), fun H e => ⟨Evl.ex_t e h1, Evl.ex_l e h2⟩, ?_⟩
  rintro i H x H' B1 hi k1 k2 ⟨T, u, v, e1, hT, e2, hu, hv⟩
  subst e1 e2
  obtain ⟨d, hd, rd⟩ := r1.get' hu
  obtain ⟨d2, hd2, rd2⟩ := r2.get' hv
  have g := Gr.new k2 hT (.tup [u, v])
  exact ⟨_, _, g, zipD_get ds es i d d2 hd hd2, .tup (.inl upd_same) (.cons ((rd.mono k1).mono g.b) (.cons ((rd2.mono k1).mono g.b) .nil))⟩
def sZipM (f g : M O) : M (List D) := (items [f, g]).bind fun ds e => match ds with
  | [.tup xs, .lst ys] => some (.ok (zipD xs ys) e)
  | _ => none
theorem i_zipM {elts : List Expr} {kk : Nat} {tpos : Pos} (hg : Gl X "zip") (hm : X.mg "zip" = none) (ha : PE X e (tE X.K X.mg W f)) (hb : PE X e2 (tE X.K X.mg W g))
    (hs : starEach [e, e2] X.env = (false, eval e X.env) :: starEach [e2] X.env := by rfl) (hs2 : starEach [e2] X.env = (false, eval e2 X.env) :: starEach [] X.env := by rfl) (hpl : (backTo pos (starEach [e2] X.env)).any (·.1) = false := by rfl) :
    PI X (.Tuple elts kk tpos) (.Call (.Name "zip" p) [e, e2] [] pos) (tSrc X.K X.mg W (sZipM f g)) := pi_imp (pi_zipM hg hm (is_c (f := f) ha (is_c (f := g) hb is_n hs2) hs) hs hpl) fun σ H R h => by
  obtain ⟨B, e, S, r, h⟩ := h
  refine items_run [f, g] _ r (h.bind.imp (fun ds e' h2 vs B' H' S' r' rl fr => ?_) fun _ _ z => z)
  cases rl with
  | nil => exact h2.elim
  | cons rv rl =>
    cases rl with
    | nil => cases rv <;> exact h2.elim
    | cons rw rl =>
      cases rl with
      | cons _ _ => cases rv <;> first | exact h2.elim | (cases rw <;> exact h2.elim)
      | nil =>
        cases rv with
        | tup k1 k2 =>
          cases rw with
          | lst j1 j2 => exact ⟨_, _, _, _, rfl, Evl.ex_t r'.ex k1.sq, Evl.sq_of (r'.ex _ _ j1), (show ∀ J B' H' S', Rp X.K B' H' σ e' S' → Fr B H (tot S) B' H' (tot S') → WalkD X.K J B' _ → R J H' from h2) _ B' H' S' r' fr (walkD_zipM (H := H') k1.sq (Evl.sq_of j1) k2 j2)⟩
          | _ => exact h2.elim
        | _ => exact h2.elim
theorem sZipM_e {e : Sl} (f g : M O) : sZipM f g e = @thn' _ _ (f e) ⟨fun o e1 => @thn' _ _ (g e1) ⟨fun o2 e2 => match [o.d, o2.d] with
  | [.tup xs, .lst ys] => some (.ok (zipD xs ys) e2)
  | _ => none⟩⟩ := by
  unfold sZipM M.bind
  rw [items_c]
  cases f e with
  | none => rfl
  | some r => cases r with
    | ex x e1 => rfl
    | ok o e1 =>
      rw [thn_ok, thn_ok]
      dsimp only
      rw [items_c]
      cases g e1 with
      | none => rfl
      | some r => cases r <;> rfl
end
section
variable {X : Cx} {W : WX} {e : Expr} {pos p : Pos} {f : M O} {x : Str} {i : Nat} {op : CmpOp} {neg : Bool}
theorem c_inTg (ho : OpR X (compareOp op) (rInT2 neg)) (ha : PE X e (tE X.K X.mg W f)) (hv : PE X (.Name x p) (tVar i)) (hm : behindInMarks op (.Name x p) = false) : PT X (.Compare e [op] [.Name x p] pos) (tT X.K X.mg W (tst (eInT neg i f))) :=
  pt_imp (pt_cmpR ho ha hv hm) fun σ H Q h => by
    obtain ⟨B, e, S, r, h⟩ := h
    refine inT_run (X := X) (W := W) ⟨B, e, S, r, h.bind.imp (fun o e' h v B' H' S' T vl f => ?_) fun _ _ z => z⟩
    cases o with
    | fr d =>
      cases d with
      | bl b =>
        have hr := vl.ro.1
        cases hr
        exact ⟨b, rfl, h B' H' S' vl.rp (f.imp (fun _ z => z) fun _ z => .inr z)⟩
      | _ => exact h.elim
    | _ => exact h.elim
theorem c_inT (hu : X.A.units + 64 < cLine) (ha : PE X e (tE X.K X.mg W f)) (hv : PE X (.Name x p) (tVar i)) (hm : behindInMarks .In (.Name x p) = false := by rfl) : PT X (.Compare e [.In] [.Name x p] pos) (tT X.K X.mg W (tst (eInT false i f))) := c_inTg (o_inTT (by omega)) ha hv hm
theorem c_notinT (hu : X.A.units + 64 < cLine) (ha : PE X e (tE X.K X.mg W f)) (hv : PE X (.Name x p) (tVar i)) (hm : behindInMarks .NotIn (.Name x p) = false := by rfl) : PT X (.Compare e [.NotIn] [.Name x p] pos) (tT X.K X.mg W (tst (eInT true i f))) := c_inTg (o_notinTT (by omega)) ha hv hm
end
/-! ### evaluation -/
section
variable {e : Sl}
theorem eDctT_a : eDctT e = some (.ok (.tr (.dtt [] [])) e) := nr rfl
theorem eInT_a (neg : Bool) (i : Nat) (f : M O) : eInT neg i f e = @thn' _ _ (f e) ⟨fun o e1 => (match getO e1 i with
    | some (.tr (.dtt ks xs)) => (match keyT o.d with
      | some k => some (.ok (bO (if neg then !(getKT ks xs k).isSome else (getKT ks xs k).isSome)) e1)
      | none => none)
    | _ => none)⟩ := by
  unfold eInT M.bind
  cases f e with
  | none => rfl
  | some r => cases r with
    | ex x e1 => rfl
    | ok o e1 =>
      rw [thn_ok]
      dsimp only
      unfold getO
      cases e1[i]? with
      | none => rfl
      | some u => cases u with
        | none => rfl
        | some o => cases o with
          | tr t => cases t <;> rfl
          | _ => rfl
/-- what is read in a dict of pairs -/
def getTR (e : Sl) (o : O) : Option O → Option (Ro O)
  | some (.tr (.dtt ks xs)) => match keyT o.d with
    | some k => (getKT ks xs k).map fun d => Ro.ok (.fr d) e
    | none => none
  | _ => none
theorem getTR_d {o : O} {ks : List (List L2.Key)} {xs : List D} : getTR e o (some (.tr (.dtt ks xs))) = (match keyT o.d with
    | some k => (getKT ks xs k).map fun d => Ro.ok (.fr d) e
    | none => none) := nr rfl
theorem eGetT_a (i : Nat) (f : M O) : eGetT i f e = (match getO e i with
    | some (.tr (.dtt _ _)) => @thn' _ _ (f e) ⟨fun o e1 => getTR e1 o (getO e1 i)⟩
    | _ => none) := by
  unfold eGetT
  rw [bind_a]
  have k : ∀ (e1 : Sl) (o : O), (match e1[i]? with
    | some (some (.tr (.dtt ks xs))) => (match keyT o.d with
      | some k => (getKT ks xs k).map fun d => (Ro.ok (O.fr d) e1 : Ro O)
      | none => none)
    | _ => none) = getTR e1 o (getO e1 i) := fun e1 o => by
    unfold getO
    cases e1[i]? with
    | none => rfl
    | some u => cases u with
      | none => rfl
      | some o => cases o with
        | tr t => cases t <;> rfl
        | _ => rfl
  have kc := thn_congr (r := f e) (f := fun o e1 => (match e1[i]? with
    | some (some (.tr (.dtt ks xs))) => (match keyT o.d with
      | some k => (getKT ks xs k).map fun d => (Ro.ok (O.fr d) e1 : Ro O)
      | none => none)
    | _ => none)) fun o e1 => k e1 o
  rw [← kc]
  unfold getO
  cases e[i]? with
  | none => rfl
  | some u => cases u with
    | none => rfl
    | some o => cases o with
      | tr t => cases t <;> rfl
      | _ => rfl
theorem eLenT_a (i : Nat) : eLenT i e = (match getO e i with
    | some (.tr (.dtt ks _)) => some (.ok (iO ks.length) e)
    | _ => none) := by
  unfold eLenT getO
  cases e[i]? with
  | none => rfl
  | some u => cases u with
    | none => rfl
    | some o => cases o with
      | tr t => cases t <;> rfl
      | _ => rfl
/-- what is put into a dict of pairs -/
def putTR (i : Nat) (e : Sl) (o ko : O) : Option O → Option (Ro Fl)
  | some (.tr (.dtt ks xs)) => match keyT ko.d with
    | some k => if ks.length < sizeLine then some (.ok .next (e.set i (some (.tr (.dtt (putKTs ks k) (putXTs ks xs k o.d)))))) else none
    | none => none
  | _ => none
theorem putTR_d {i : Nat} {o ko : O} {ks : List (List L2.Key)} {xs : List D} : putTR i e o ko (some (.tr (.dtt ks xs))) = (match keyT ko.d with
    | some k => if ks.length < sizeLine then some (.ok .next (e.set i (some (.tr (.dtt (putKTs ks k) (putXTs ks xs k o.d)))))) else none
    | none => none) := nr rfl
theorem sPutT_a (i : Nat) (f g : M O) : sPutT i f g e = @thn' _ _ (g e) ⟨fun o e1 => (match getO e1 i with
    | some (.tr (.dtt _ _)) => @thn' _ _ (f e1) ⟨fun ko e2 => putTR i e2 o ko (getO e2 i)⟩
    | _ => none)⟩ := by
  unfold sPutT
  rw [bind_a]
  refine thn_congr fun o e1 => ?_
  rw [bind_a]
  have k : ∀ (e2 : Sl) (ko : O), (match e2[i]? with
    | some (some (.tr (.dtt ks xs))) => (match keyT ko.d with
      | some k => if ks.length < sizeLine then some (Ro.ok Fl.next (e2.set i (some (.tr (.dtt (putKTs ks k) (putXTs ks xs k o.d)))))) else none
      | none => none)
    | _ => none) = putTR i e2 o ko (getO e2 i) := fun e2 ko => by
    unfold getO
    cases e2[i]? with
    | none => rfl
    | some u => cases u with
      | none => rfl
      | some o => cases o with
        | tr t => cases t <;> rfl
        | _ => rfl
  have kc := thn_congr (r := f e1) (f := fun ko e2 => (match e2[i]? with
    | some (some (.tr (.dtt ks xs))) => (match keyT ko.d with
      | some k => if ks.length < sizeLine then some (Ro.ok Fl.next (e2.set i (some (.tr (.dtt (putKTs ks k) (putXTs ks xs k o.d)))))) else none
      | none => none)
    | _ => none)) fun ko e2 => k e2 ko
  rw [← kc]
  unfold getO
  cases e1[i]? with
  | none => rfl
  | some u => cases u with
    | none => rfl
    | some o => cases o with
      | tr t => cases t <;> rfl
      | _ => rfl
end
end Dn

namespace Dn
open PySem L2
open Evl (Ex)

/-! ## 53. list.index of data -/
def idxD : List D → D → Option Nat
  | [], _ => none
  | y :: ys, k => if D.eqv y k = true then some 0 else (idxD ys k).map (· + 1)
theorem idxD_spec : ∀ {ys : List D} {k : D} {j : Nat}, idxD ys k = some j → (∃ y, ys[j]? = some y ∧ D.eqv y k = true) ∧ ∀ (m : Nat) (z : D), m < j → ys[m]? = some z → D.eqv z k = false
  | [], _, _, h => by cases h
  | y :: ys, k, j, h => by
    unfold idxD at h
    by_cases e : D.eqv y k = true
    · rw [if_pos e] at h
      cases h
      exact ⟨⟨y, rfl, e⟩, fun m z hm _ => by omega⟩
    · rw [if_neg e] at h
      obtain ⟨i, h1, rfl⟩ := Option.map_eq_some_iff.mp h
      obtain ⟨a, b⟩ := idxD_spec h1
      refine ⟨a, fun m z hm hz => ?_⟩
      cases m with
      | zero => cases hz; exact Bool.eq_false_iff.mpr e
      | succ m => exact b m z (by omega) hz
def gLIndexD : List D → Option O
  | [.lst ds, d] => if shp (.lst ds) && shp d then (idxD ds d).map fun j => iO (j : Nat) else none
  | _ => none
theorem n_lindexD {K : PySem.W.Frag} : SndM K (rIndexD K) gLIndexD := fun B H x vs a ds o hx ha hr hg Q q => by
  unfold gLIndexD at hg
  split at hg
  · rename_i _ ls k e
    injection e with e1 e2
    subst e1 e2
    split at hg
    · rename_i hs
      rw [Bool.and_eq_true] at hs
      obtain ⟨j, hj, rfl⟩ := Option.map_eq_some_iff.mp hg
      obtain ⟨y, rfl, h4⟩ := hr.one
      obtain ⟨⟨z, a1, a2⟩, a3⟩ := idxD_spec hj
      have hl := ha
      obtain ⟨p, xs, rfl, h2, h3⟩ := ha
      refine ⟨p, y, k.py, D.pys ls, j, z.py, rfl, rfl, ?_, h4.dp hx (shp_nx hs.2), ?_, hs.2, ?_, a2, fun m z' hm hz => ?_, q.fr hx (.int _)⟩
      · have := Rd.dp (d := .lst ls) hl hx (shp_nx hs.1)
        rw [D.py] at this
        exact this
      · have := hs.1
        unfold shp at this
        rw [D.py] at this
        exact this
      · rw [D.pys_map, List.getElem?_map, a1]; rfl
      · rw [D.pys_map, List.getElem?_map] at hz
        obtain ⟨w, hw, rfl⟩ := Option.map_eq_some_iff.mp hz
        exact a3 m w hm hw
    · cases hg
  · cases hg
theorem gLIndexD_v {ds : List D} {d : D} {j : Nat} (h1 : shp (.lst ds) = true) (h2 : shp d = true) (h : idxD ds d = some j) : gLIndexD [.lst ds, d] = some (iO (j : Nat)) := by
  show (if shp (.lst ds) && shp d then (idxD ds d).map fun j => iO (j : Nat) else none) = _
  rw [h1, h2, h]; rfl
end Dn

namespace Dn
open PySem L2

/-! ## 54. sorted(list) of whole numbers -/
def srtI (ns : List Int) : List Int := ns.mergeSort fun a b => decide (a ≤ b)
theorem srtI_perm (ns : List Int) : (srtI ns).Perm ns := List.mergeSort_perm _ _
theorem srtI_up (ns : List Int) : (srtI ns).Pairwise (· ≤ ·) := by
  have := List.pairwise_mergeSort (le := fun a b : Int => decide (a ≤ b)) (fun a b c h1 h2 => by simp only [decide_eq_true_eq] at *; omega) (fun a b => by simp only [Bool.or_eq_true, decide_eq_true_eq]; omega) ns
  exact this.imp fun h => by simpa using h
theorem srtI_one {ns ns' : List Int} (hp : ns'.Perm ns) (hs : ns'.Pairwise (· ≤ ·)) : ns' = srtI ns :=
  List.Perm.eq_of_pairwise (fun _ _ _ _ a b => Int.le_antisymm a b) hs (srtI_up ns) (hp.trans (srtI_perm ns).symm)
def gSortI : List D → Option O
  | [.lst ds] => (intsD ds).map fun ns => .lst ((srtI ns).map .int)
  | _ => none
theorem n_sortI {K : PySem.W.Frag} : SndN K (rSortedI K) gSortI := fun B H vs ds o hx hr hg Q q => by
  unfold gSortI at hg
  split at hg
  · obtain ⟨ns, e, rfl⟩ := Option.map_eq_some_iff.mp hg
    obtain ⟨v, rfl, h⟩ := hr.one
    obtain ⟨p, xs, rfl, h1, h2⟩ := h
    rw [intsD_map e] at h2
    rw [repL_of_ints h2] at h1
    exact ⟨_, ns, rfl, Evl.sq_of h1, fun ns' p hp hs hn => by
      rw [srtI_one hp hs]
      exact q.newL hx (repL_ints _) hn⟩
  · cases hg
theorem intsD_ints : ∀ ns : List Int, intsD (ns.map D.int) = some ns
  | [] => rfl
  | n :: ns => by rw [List.map_cons]; unfold intsD; rw [intsD_ints ns]; rfl
theorem gSortI_v {ns : List Int} : gSortI [.lst (ns.map .int)] = some (.lst ((srtI ns).map .int)) := by
  show (intsD (ns.map D.int)).map _ = _
  rw [intsD_ints]; rfl
theorem srtI_self {ns : List Int} (h : ns.Pairwise (· ≤ ·)) : srtI ns = ns := (srtI_one (List.Perm.refl ns) h).symm
end Dn

namespace Dn
open PySem L2
open Evl (Ex)

/-! ## 55. Instances that change: trees of one's own -/
def putTx : List Str → List T → Str → T → List T
  | n :: ns, t :: ts, f, u => if n = f then u :: ts else t :: putTx ns ts f u
  | _, _, _, u => [u]
section
variable {K : PySem.W.Frag} {mg : Str → Option Value} {W : WX} {B B' H H' : Hp} {v : V} {o : O} {σ σ' : St} {e e' : Sl} {S S' : Nat → Addr → Prop} {U : Addr → Prop}
theorem RepTs.put (f : Str) {t : T} (hv : RepT K B H v t U) : ∀ {fs : List (Str × V)} {ns : List Str} {ts : List T} {S1 : Addr → Prop}, fs.map (·.1) = ns → RepTs K B H (fs.map (·.2)) ts S1 → (∀ a, U a → ¬ S1 a) →
    ∃ S2, RepTs K B H ((putF f v fs).map (·.2)) (putTx ns ts f t) S2 ∧ ∀ a, S2 a → S1 a ∨ U a
  | [], [], [], S1, _, h, _ => ⟨U, .cons (S2 := noS) hv (.nil fun _ z => z) (fun _ _ z => z) fun a => ⟨.inl, fun z => z.elim id fun z => z.elim⟩, fun a z => .inr z⟩
  | [], [], _ :: _, _, _, h, _ => by cases h
  | p :: fs, [], _, _, h, _, _ => by cases h
  | [], _ :: _, _, _, h, _, _ => by cases h
  | p :: fs, n :: ns, [], _, _, hr, _ => by cases hr
  | (g, x) :: fs, n :: ns, t' :: ts, S1, h, hr, hd => by
    rw [List.map_cons] at h hr
    injection h with h1 h2
    cases hr with
    | cons a b d e =>
      rename_i A1 A2
      have h1' : g = n := h1
      show ∃ S2, RepTs K B H ((if g = f then (g, v) :: fs else (g, x) :: putF f v fs).map (·.2)) (if n = f then t :: ts else t' :: putTx ns ts f t) S2 ∧ _
      by_cases ej : n = f
      · rw [if_pos ej, if_pos (h1'.trans ej)]
        exact ⟨fun a => U a ∨ A2 a, .cons hv b (fun y z w => hd y z ((e y).mpr (.inr w))) fun _ => Iff.rfl, fun y z => z.elim .inr fun z => .inl ((e y).mpr (.inr z))⟩
      · rw [if_neg ej, if_neg (fun z => ej (h1'.symm.trans z))]
        obtain ⟨S2, r2, k2⟩ := RepTs.put f hv h2 b fun y z w => hd y z ((e y).mpr (.inr w))
        exact ⟨fun a => A1 a ∨ S2 a, .cons a r2 (fun y z w => (k2 y w).elim (d y z) fun w => hd y w ((e y).mpr (.inl z))) fun _ => Iff.rfl, fun y z => z.elim (fun z => .inl ((e y).mpr (.inl z))) fun z => (k2 y z).imp (fun z => (e y).mpr (.inr z)) id⟩
/-- what slot i owns at l is written over, and takes in what T owns -/
theorem Rp.setT (r : Rp K B H σ e S) {T : Addr → Prop} (ho : Own B H T) (hd : ∀ a, T a → ¬ tot S a) {i : Nat} {o o' : O} {l : Addr} {u u' : HO} (he : e[i]? = some (some o)) (hS : S i l) (hl : H l = some u) (hU : ∀ a, U a → S i a ∨ T a)
    (hn : ∀ v, σ[i]? = some (some v) → RepO K B (L2.upd H l u') v o' U) :
    Rp K B (L2.upd H l u') σ (e.set i (some o')) (fun j => if j = i then U else S j) ∧ Fr B H (fun a => T a ∨ tot S a) B (L2.upd H l u') (tot fun j => if j = i then U else S j) := by
  have hb := (r.own i l hS).1
  have hlen : i < e.length := (List.getElem?_eq_some_iff.mp he).1
  have ow : ∀ a, S i a ∨ T a → B a = none ∧ ∃ o, H a = some o := fun a z => z.elim (r.own i a) (ho a)
  refine ⟨⟨by rw [List.length_set]; exact r.len, fun a w ha => ?_, fun j w hw => ?_, fun j k a hj hk => ?_, fun j a ha => ?_⟩, ?_⟩
  · rw [upd_ne (show a ≠ l from fun z => by subst z; rw [hb] at ha; cases ha)]; exact r.ex a w ha
  · by_cases hj : j = i
    · subst hj
      rw [List.getElem?_set_self hlen] at hw
      cases hw
      obtain ⟨v, hv, _⟩ := r.rep j _ he
      refine ⟨v, hv, ?_⟩
      rw [if_pos rfl]
      exact hn v hv
    · rw [List.getElem?_set_ne (Ne.symm hj)] at hw
      obtain ⟨v, a1, a2⟩ := r.rep j w hw
      refine ⟨v, a1, ?_⟩
      rw [if_neg hj]
      exact a2.keep fun a q z hq => by rw [upd_ne (show a ≠ l from fun y => hj (r.dis j i a z (by rw [y]; exact hS)))]; exact hq
  · by_cases ej : j = i
    · by_cases ek : k = i
      · rw [ej, ek]
      · rw [if_pos ej] at hj
        rw [if_neg ek] at hk
        rcases hU a hj with z | z
        · exact absurd (r.dis i k a z hk).symm ek
        · exact absurd ⟨k, hk⟩ (hd a z)
    · rw [if_neg ej] at hj
      by_cases ek : k = i
      · rw [if_pos ek] at hk
        rcases hU a hk with z | z
        · exact absurd (r.dis j i a hj z) ej
        · exact absurd ⟨j, hj⟩ (hd a z)
      · rw [if_neg ek] at hk
        exact r.dis j k a hj hk
  · have key : B a = none ∧ ∃ o, H a = some o := by
      by_cases ej : j = i
      · rw [if_pos ej] at ha; exact ow a (hU a ha)
      · rw [if_neg ej] at ha; exact r.own j a ha
    refine ⟨key.1, ?_⟩
    by_cases hp : a = l
    · exact ⟨_, by rw [hp]; exact upd_same⟩
    · obtain ⟨w, h⟩ := key.2
      exact ⟨w, by rw [upd_ne hp]; exact h⟩
  · refine ⟨Ex.refl B, fun a o ha hn => ?_, fun a ⟨j, hj⟩ => .inl ?_, fun _ _ z => .inl z, fun a o ha => ?_⟩
    · rw [upd_ne (fun z => hn (.inr ⟨i, by rw [z]; exact hS⟩))]; exact ha
    · dsimp only at hj
      by_cases ej : j = i
      · rw [if_pos ej] at hj
        exact (hU a hj).elim (fun z => .inr ⟨i, z⟩) .inl
      · rw [if_neg ej] at hj; exact .inr ⟨j, hj⟩
    · by_cases hp : a = l
      · exact ⟨u', by rw [hp]; exact upd_same⟩
      · exact ⟨o, by rw [upd_ne hp]; exact ha⟩
/-- a dict in a tree's field -/
theorem RepTs.dctF {f : Str} {ks : List L2.Key} {xs : List D} : ∀ {fs : List (Str × V)} {ns : List Str} {ts : List T} {U : Addr → Prop}, fs.map (·.1) = ns → RepTs K B H (fs.map (·.2)) ts U → getT ns ts f = some (.dct ks xs) →
    ∃ q kv, fs.lookup f = some (.ref q) ∧ H q = some (.dK kv) ∧ kv.map (·.1) = ks ∧ RepL K B (kv.map (·.2)) xs ∧ U q ∧
      ∀ kv' ks' xs', kv'.map (·.1) = ks' → RepL K B (kv'.map (·.2)) xs' → RepTs K B (L2.upd H q (.dK kv')) (fs.map (·.2)) (putTx ns ts f (.dct ks' xs')) U
  | [], [], ts, _, _, _, e => by cases ts <;> cases e
  | p :: fs, [], _, _, h, _, _ => by cases h
  | [], _ :: _, _, _, h, _, _ => by cases h
  | p :: fs, n :: ns, [], _, _, hr, _ => by cases hr
  | (g, x) :: fs, n :: ns, t :: ts, U, h, hr, e => by
    rw [List.map_cons] at h hr
    injection h with h1 h2
    cases hr with
    | cons ra rb dj eq =>
      rename_i A1 A2
      have h1' : g = n := h1
      unfold getT at e
      by_cases ej : n = f
      · rw [if_pos ej] at e
        cases e
        cases ra with
        | dct c1 c2 c3 c4 =>
          rename_i q kv
          refine ⟨q, kv, ?_, c1, c2, c3, (eq q).mpr (.inl ((c4 q).mpr rfl)), fun kv' ks' xs' k1 k2 => ?_⟩
          · rw [List.lookup_cons, show (f == g) = true from beq_iff_eq.mpr (h1'.trans ej).symm]
          · unfold putTx
            rw [if_pos ej, List.map_cons]
            refine .cons (.dct upd_same k1 k2 c4) (RepTs.frame (Ex.refl B) rb fun a o z w => ?_) dj eq
            rw [upd_ne (show a ≠ q from fun y => dj a ((c4 a).mpr y) z)]; exact w
      · rw [if_neg ej] at e
        obtain ⟨q, kv, g1, g2, g3, g4, g5, g6⟩ := RepTs.dctF h2 rb e
        refine ⟨q, kv, ?_, g2, g3, g4, (eq q).mpr (.inr g5), fun kv' ks' xs' k1 k2 => ?_⟩
        · rw [List.lookup_cons, show (f == g) = false from beq_eq_false_iff_ne.mpr fun z => ej (h1'.symm.trans z.symm)]; exact g1
        · unfold putTx
          rw [if_neg ej, List.map_cons]
          refine .cons (RepT.frame (Ex.refl B) ra fun a o z w => ?_) (g6 kv' ks' xs' k1 k2) dj eq
          rw [upd_ne (show a ≠ q from fun y => dj a z (by rw [y]; exact g5))]; exact w
/-- the dict in field f of the instance in slot i -/
def fldD (c f : Str) (e : Sl) (i : Nat) : Option (List L2.Key × List D) := match e[i]? with
  | some (some (.tr (.ins c' ns ts))) => if c' = c then (match getT ns ts f with
    | some (.dct ks xs) => some (ks, xs)
    | _ => none) else none
  | _ => none
/-- the same with another dict there -/
def setD (f : Str) (e : Sl) (i : Nat) (ks : List L2.Key) (xs : List D) : Sl := match e[i]? with
  | some (some (.tr (.ins c ns ts))) => e.set i (some (.tr (.ins c ns (putTx ns ts f (.dct ks xs)))))
  | _ => e
theorem fldD_at (r : Rp K B H σ e S) {i : Nat} {c f : Str} {ks : List L2.Key} {xs : List D} (h : fldD c f e i = some (ks, xs)) :
    ∃ p C dx fs q kv, σ[i]? = some (some (.ref p)) ∧ H p = some (.ins C dx fs) ∧ ClsN K c C ∧ fs.lookup f = some (.ref q) ∧ H q = some (.dK kv) ∧ kv.map (·.1) = ks ∧ RepL K B (kv.map (·.2)) xs ∧
      ∀ kv' ks' xs', kv'.map (·.1) = ks' → RepL K B (kv'.map (·.2)) xs' → Rp K B (L2.upd H q (.dK kv')) σ (setD f e i ks' xs') S ∧ Fr B H (tot S) B (L2.upd H q (.dK kv')) (tot S) := by
  unfold fldD at h
  cases he : e[i]? with
  | none => rw [he] at h; cases h
  | some u =>
    rw [he] at h
    cases u with
    | none => cases h
    | some o =>
      cases o with
      | tr t =>
        cases t with
        | ins c' ns ts =>
          dsimp only at h
          by_cases ec : c' = c
          · rw [if_pos ec] at h
            cases hg : getT ns ts f with
            | none => rw [hg] at h; cases h
            | some t1 =>
              rw [hg] at h
              cases t1 with
              | dct ks1 xs1 =>
                cases h
                obtain ⟨v, hv, ro⟩ := r.rep i _ he
                cases (show RepT K B H v (.ins c' ns ts) (S i) from ro) with
                | ins h1 h2 h3 h4 h5 h6 =>
                  rename_i p dx C fs S1
                  obtain ⟨q, kv, g1, g2, g3, g4, g5, g6⟩ := RepTs.dctF h3 h4 hg
                  subst ec
                  refine ⟨p, C, dx, fs, q, kv, hv, h1, h2, g1, g2, g3, g4, fun kv' ks' xs' k1 k2 => ?_⟩
                  unfold setD
                  rw [he]
                  dsimp only
                  refine r.mutT he ((h6 q).mpr (.inr g5)) g2 fun w hw => ?_
                  rw [hv] at hw
                  cases hw
                  exact .ins (by rw [upd_ne (show p ≠ q from fun z => h5 (by rw [z]; exact g5))]; exact h1) h2 h3 (g6 kv' ks' xs' k1 k2) h5 h6
              | _ => cases h
          · rw [if_neg ec] at h; cases h
        | _ => cases h
      | _ => cases h
end
/-- x.f = e, x an instance that changes -/
def sSetFT (c f : Str) (i : Nat) (g : M O) : M Fl := g.bind fun o e => match e[i]? with
  | some (some (.tr (.ins c' ns ts))) => if c' = c ∧ ns.length < 1000 then some (.ok .next (e.set i (some (.tr (.ins c' (putFn ns f) (putTx ns ts f o.t)))))) else none
  | _ => none
def keyS (e : Sl) (j : Nat) : Option L2.Key := match e[j]? with
  | some (some (.fr d)) => keyD d
  | _ => none
theorem keyS_at {K : PySem.W.Frag} {B H : Hp} {σ : St} {e : Sl} {S : Nat → Addr → Prop} (r : Rp K B H σ e S) {j : Nat} {k : L2.Key} (h : keyS e j = some k) : σ[j]? = some (some (kV k)) := by
  unfold keyS at h
  cases he : e[j]? with
  | none => rw [he] at h; cases h
  | some u =>
    rw [he] at h
    cases u with
    | none => cases h
    | some o =>
      cases o with
      | fr d =>
        obtain ⟨v, hv, ro⟩ := r.rep j _ he
        rw [hv, keyD_rep ro.1 h]
      | _ => cases h
/-- x.f[k] = e, k in a slot -/
def sPutF (c f : Str) (i j : Nat) (g : M O) : M Fl := g.bind fun o e => match fldD c f e i with
  | some (ks, xs) => (match keyS e j with
    | some k => if ks.length < sizeLine then some (.ok .next (setD f e i (putKs ks k) (putXs ks xs k o.d))) else none
    | none => none)
  | none => none
/-- x.f.get(k), k in a slot -/
def eGetF (c f : Str) (i j : Nat) : M O := fun e => match fldD c f e i with
  | some (ks, xs) => (match keyS e j with
    | some k => some (.ok (.fr ((getK ks xs k).getD .non)) e)
    | none => none)
  | none => none
def keyO : L2.Key → D
  | .inl i => .int i
  | .inr z => .str z
/-- list(x.f), x.f a dict -/
def eKeysF (c f : Str) (i : Nat) : M O := fun e => match fldD c f e i with
  | some (ks, _) => some (.ok (.lst (ks.map keyO)) e)
  | none => none
section
variable {X : Cx} {W : WX} {e k : Expr} {pos pos' p p1 p2 : Pos} {f g : M O} {ks : List Nat} {i : Nat} {x c fn : Str} {fs : List Str}
theorem s_setFT (F : FldC X.K c fs) (hf : fn ∈ fs) (hv : PE X (.Name x p) (tVar i)) (he : PE X e (tE X.K X.mg W g)) (hs : swapsWith e (some (.Attribute (.Name x p) fn pos')) pos.line X.env = pure false := by rfl) :
    PS X (.Assign [.Attribute (.Name x p) fn pos'] e pos) (tS X.K X.mg W ks (sSetFT c fn i g)) := ps_imp (ps_fld hv he hs) fun D σ H h => by
  obtain ⟨B, e, S, r, h⟩ := h
  refine ⟨B, e, S, r, h.bind.imp (fun o e1 h9 v1 B1 H1 S1 T vl f1 => ?_) fun _ _ z => ExS.toE z⟩
  clear h
  cases q : e1[i]? with
  | none => rw [q] at h9; exact h9.elim
  | some u =>
    rw [q] at h9
    cases u with
    | none => exact h9.elim
    | some o1 =>
      cases o1 with
      | tr t =>
        cases t with
        | ins c' ns ts =>
          dsimp only at h9
          by_cases hc : c' = c ∧ ns.length < 1000
          · rw [if_pos hc] at h9
            obtain ⟨rfl, hl⟩ := hc
            obtain ⟨v, hv, ro⟩ := vl.rp.rep i _ q
            cases (show RepT X.K B1 H1 v (.ins c' ns ts) (S1 i) from ro) with
            | ins k1 k2 k3 k4 k5 k6 =>
              rename_i l dx C fs' S0
              obtain ⟨c1, c2⟩ := F.ok C k2
              obtain ⟨S2, r2, k7⟩ := RepTs.put fn (RepO.t vl.ro) k3 k4 fun a z w => vl.dj a z ⟨i, (k6 a).mpr (.inr w)⟩
              have np : ¬ S2 l := fun z => (k7 l z).elim k5 fun z => vl.dj l z ⟨i, (k6 l).mpr (.inl rfl)⟩
              obtain ⟨r5, f5⟩ := vl.rp.setT (U := fun a => a = l ∨ S2 a) vl.own vl.dj q ((k6 l).mpr (.inl rfl)) k1 (u' := .ins C dx (putF fn v1 fs')) (o' := .tr (.ins c' (putFn ns fn) (putTx ns ts fn o.t)))
                (fun a z => z.elim (fun z => .inl ((k6 a).mpr (.inl z))) fun z => (k7 a z).imp (fun z => (k6 a).mpr (.inr z)) id) fun w hw => by
                  rw [hv] at hw
                  cases hw
                  exact .ins upd_same k2 (by rw [putF_ns, k3]) (RepTs.frame (Ex.refl B1) r2 fun a o z w => by rw [upd_ne (show a ≠ l from fun y => np (by rw [← y]; exact z))]; exact w) np fun _ => Iff.rfl
              exact ⟨_, hv, l, C, dx, fs', rfl, k1, c1, c2 _ hf, by rw [← k3, List.length_map] at hl; exact hl, (show Nd X.K D ks B H S σ .next _ from h9) σ B1 _ _ r5 (Kp.refl _ _) (f1.trans f5)⟩
          · rw [if_neg hc] at h9; exact h9.elim
        | _ => exact h9.elim
      | _ => exact h9.elim
theorem s_putF {y : Str} {p3 : Pos} {j : Nat} (hu : X.A.units + 64 < cLine) (F : FldC X.K c fs) (hf : fn ∈ fs) (hv : PE X (.Name x p) (tVar i)) (hk : PE X (.Name y p3) (tVar j)) (he : PE X e (tE X.K X.mg W g))
    (hb : attributeBase (.Name x p) fn X.env (eval (.Name x p) X.env) = eval (.Name x p) X.env := by rfl) (hs : swapsWith e (some (.Subscript (.Attribute (.Name x p) fn p1) (.Name y p3) p2)) pos.line X.env = pure false := by rfl) :
    PS X (.Assign [.Subscript (.Attribute (.Name x p) fn p1) (.Name y p3) p2] e pos) (tS X.K X.mg W ks (sPutF c fn i j g)) := ps_imp (ps_dput (by omega) (pe_fld hv hb) hk he hs) fun D σ H h => by
  obtain ⟨B, e, S, r, h⟩ := h
  refine ⟨B, e, S, r, h.bind.imp (fun o e1 h v1 B1 H1 S1 T vl f1 => ?_) fun _ _ z => ExS.toE z⟩
  obtain ⟨B2, vl2, f2⟩ := vl.freeze
  have f3 := fz_fr f1 f2
  cases q : fldD c fn e1 i with
  | none => rw [q] at h; exact h.elim
  | some u =>
    obtain ⟨ks1, xs1⟩ := u
    rw [q] at h
    dsimp only at h
    cases q2 : keyS e1 j with
    | none => rw [q2] at h; exact h.elim
    | some k =>
      rw [q2] at h
      dsimp only at h
      by_cases hl : ks1.length < sizeLine
      · rw [if_pos hl] at h
        obtain ⟨p', C, dx, fs', q1, kv, g1, g2, g3, g4, g5, g6, g7, g8⟩ := fldD_at vl2.rp q
        obtain ⟨c1, c2⟩ := F.ok C g3
        have hl' : kv.length < sizeLine := by rw [← g6, List.length_map] at hl; exact hl
        obtain ⟨r5, f5⟩ := g8 (putK kv k v1) (putKs ks1 k) (putXs ks1 xs1 k o.d) (by rw [putK_ks, g6]) (putK_xs k vl2.ro.1 g6 g7)
        exact ⟨_, g1, p', C, dx, fs', _, rfl, g2, c1, c2 _ hf, g4, _, keyS_at vl2.rp q2, q1, _, rfl, DPut.k g5 hl', (show Nd X.K D ks B H S σ .next _ from h) σ B2 _ S1 r5 (Kp.refl _ _) (f3.trans f5)⟩
      · rw [if_neg hl] at h; exact h.elim
theorem d_getF {y : Str} {p3 apos cpos : Pos} {j : Nat} (hu : X.A.units + 64 < cLine) (F : FldC X.K c fs) (hf : fn ∈ fs) (hv : PE X (.Name x p) (tVar i)) (hk : PE X (.Name y p3) (tVar j)) (m : M1 X (.Attribute (.Name x p) fn p1) "get" apos (.Name y p3) cpos)
    (hb : attributeBase (.Name x p) fn X.env (eval (.Name x p) X.env) = eval (.Name x p) X.env := by rfl) :
    PE X (.Call (.Attribute (.Attribute (.Name x p) fn p1) "get" apos) [.Name y p3] [] cpos) (tE X.K X.mg W (eGetF c fn i j)) := pe_imp (pe_dget1 (by omega) (pe_fld hv hb) hk m) fun σ H Q h => by
  obtain ⟨B, e, S, r, h⟩ := h
  unfold eGetF at h
  cases q : fldD c fn e i with
  | none => rw [q] at h; exact h.elim
  | some u =>
    obtain ⟨ks1, xs1⟩ := u
    rw [q] at h
    dsimp only at h
    cases q2 : keyS e j with
    | none => rw [q2] at h; exact h.elim
    | some k =>
      rw [q2] at h
      dsimp only at h
      obtain ⟨p', C, dx, fs', q1, kv, g1, g2, g3, g4, g5, g6, g7, g8⟩ := fldD_at r q
      obtain ⟨c1, c2⟩ := F.ok C g3
      refine ⟨_, g1, p', C, dx, fs', _, rfl, g2, c1, c2 _ hf, g4, q1, rfl, .inl ⟨kv, .of g5⟩, _, keyS_at r q2, _, DGet.k g5, ?_⟩
      have fin : ∀ w, Rep X.K B w ((getK ks1 xs1 k).getD .non) → Q w H := fun w hw =>
        (show ∀ v B' H' S' T, Vl X.K B' H' σ e S' v (.fr ((getK ks1 xs1 k).getD .non)) T → Fr B H (tot S) B' H' (fun a => T a ∨ tot S' a) → Q v H' from h) w B H S noS (.fr r hw) ((Fr.refl _ _ _).imp (fun _ z => z) fun a z => z.elim (fun z => z.elim) id)
      cases e1 : getK ks1 xs1 k with
      | none =>
        rw [e1] at fin
        rw [getK_none g6 g7 e1]
        exact fin _ .non
      | some d =>
        rw [e1] at fin
        obtain ⟨w, e2, e3⟩ := getK_rep g6 g7 e1
        rw [e2]
        exact fin _ e3
theorem keyO_rep {K : PySem.W.Frag} {B : Hp} : ∀ kv : List (L2.Key × V), RepL K B (kv.map fun kv => kV kv.1) ((kv.map (·.1)).map keyO)
  | [] => .nil
  | (.inl i, v) :: kv => .cons (.int i) (keyO_rep kv)
  | (.inr z, v) :: kv => .cons (.str z) (keyO_rep kv)
theorem d_keysF {fp : Pos} (hcalm : X.calm = true) (hg : Gl X "list") (hm : X.mg "list" = none) (F : FldC X.K c fs) (hf : fn ∈ fs) (hv : PE X (.Name x p) (tVar i))
    (hb : attributeBase (.Name x p) fn X.env (eval (.Name x p) X.env) = eval (.Name x p) X.env := by rfl)
    (hs : starEach [.Attribute (.Name x p) fn p1] X.env = [(false, eval (.Attribute (.Name x p) fn p1) X.env)] := by rfl) (hpl : (backTo pos (starEach [] X.env)).any (·.1) = false := by rfl) :
    PE X (.Call (.Name "list" fp) [.Attribute (.Name x p) fn p1] [] pos) (tE X.K X.mg W (eKeysF c fn i)) :=
  pe_imp (pe_callTy (call_listD hcalm) hg hm bt_list (pa_cons (pe_fld hv hb) pa_nil hs) (by decide) (by decide) hs hpl) fun σ H Q h => by
    obtain ⟨B, e, S, r, h⟩ := h
    unfold eKeysF at h
    cases q : fldD c fn e i with
    | none => rw [q] at h; exact h.elim
    | some u =>
      obtain ⟨ks1, xs1⟩ := u
      rw [q] at h
      dsimp only at h
      obtain ⟨p', C, dx, fs', q1, kv, g1, g2, g3, g4, g5, g6, g7, g8⟩ := fldD_at r q
      obtain ⟨c1, c2⟩ := F.ok C g3
      refine ⟨_, g1, p', C, dx, fs', _, rfl, g2, c1, c2 _ hf, g4, q1, kv, rfl, .of g5, fun l hl => ?_⟩
      have hr := keyO_rep (K := X.K) (B := B) kv
      rw [g6] at hr
      have g := Gr.own r.ex hl (.lst (kv.map fun kv => kV kv.1))
      refine (show ∀ v B' H' S' T, Vl X.K B' H' σ e S' v (.lst (ks1.map keyO)) T → Fr B H (tot S) B' H' (fun a => T a ∨ tot S' a) → Q v H' from h) (.ref l) B _ S (fun a => a = l) ⟨r.grow g, ⟨_, _, rfl, upd_same, hr, fun a => Iff.rfl⟩, fun a e => ?_, fun a e ⟨j, hj⟩ => ?_⟩ ⟨g.b, fun a o q _ => g.h a o q, fun a z => z.elim (fun z => .inr (by rw [z]; exact hl)) .inl, fun a u q => (g.c a u q).elim .inl fun z => .inr (.inr z), fun a u q => ⟨u, g.h a u q⟩⟩
      · subst e
        refine ⟨?_, _, upd_same⟩
        cases q : B a with
        | none => rfl
        | some u => have := r.ex a u q; rw [hl] at this; cases this
      · subst e
        obtain ⟨_, u, hu⟩ := r.own j a hj
        rw [hl] at hu; cases hu
end
end Dn

namespace Dn
open PySem L2
open Evl (Ex)

/-! ## 56. Making instances that change, calling their methods -/
def mkInsT (c : Str) (F : Fn) : Fn := fun os => match F (.tr (.ins c [] []) :: os) with
  | some (.ok (.fr .non) (.tr t :: os')) => some (.ok (.tr t) os')
  | some (.ex x (_ :: os')) => some (.ex x os')
  | _ => none
theorem spD_makeT {K : PySem.W.Frag} {mg : Str → Option Value} {n : Nat} {c : Str} {F : Fn} {C : Addr} {vs : List V} {H : Hp} {Q : VK} {E : XK} (hC : ClsN K c C) (h : spD K mg n (mkInsT c F) vs H Q E) :
    ∀ x dx, H x = none → H dx = none → dx ≠ x → spD K mg (n + 1) F (.ref x :: vs) (L2.upd (L2.upd H dx (.own x)) x (.ins C dx [])) (fun v H2 => v = .non ∧ Q (.ref x) H2) E := by
  intro x dx hx hdx hne
  obtain ⟨hl, B, os, S, r, h⟩ := h
  have g1 := Gr.own r.ex hdx (.own x)
  have hx1 : (L2.upd H dx (.own x)) x = none := by rw [upd_ne (Ne.symm hne)]; exact hx
  have g2 := Gr.own (r.grow g1).ex hx1 (.ins C dx [])
  have r2 := (r.grow g1).grow g2
  have gg := g1.trans g2
  have hnS : ∀ i a, S i a → a ≠ x := fun i a hi z => by
    subst z
    obtain ⟨_, u, hu⟩ := r.own i a hi
    rw [hx] at hu; cases hu
  have hBx : B x = none := by
    cases q : B x with
    | none => rfl
    | some u => have := r.ex x u q; rw [hx] at this; cases this
  have r3 : Rp K B (L2.upd (L2.upd H dx (.own x)) x (.ins C dx [])) ((V.ref x :: vs).map some) ((O.tr (.ins c [] []) :: os).map some) (fun i a => match i with
      | 0 => a = x
      | i + 1 => S i a) := by
    refine ⟨?_, r2.ex, fun i o ho => ?_, fun i j a h1 h2 => ?_, fun i a h1 => ?_⟩
    · have := r.len
      rw [List.length_map, List.length_map] at this
      rw [List.length_map, List.length_map, List.length_cons, List.length_cons, this]
    · cases i with
      | zero =>
        have ho' : some (some (O.tr (.ins c [] []))) = some (some o) := ho
        cases ho'
        exact ⟨.ref x, rfl, .ins (fs := []) (S1 := noS) upd_same hC rfl (.nil fun _ z => z) (fun z => z) fun a => ⟨.inl, fun z => z.elim id fun z => z.elim⟩⟩
      | succ i => exact r2.rep i o ho
    · cases i with
      | zero =>
        cases j with
        | zero => rfl
        | succ j => exact absurd h1 (hnS j a h2)
      | succ i =>
        cases j with
        | zero => exact absurd h2 (hnS i a h1)
        | succ j => rw [r.dis i j a h1 h2]
    · cases i with
      | zero =>
        have h1' : a = x := h1
        subst h1'
        exact ⟨hBx, _, upd_same⟩
      | succ i => exact r2.own i a h1
  refine ⟨by rw [List.length_cons, hl], B, _, _, r3, ?_⟩
  have fr0 : Fr B H (tot S) B (L2.upd (L2.upd H dx (.own x)) x (.ins C dx [])) (tot fun i a => match i with
      | 0 => a = x
      | i + 1 => S i a) := by
    refine ⟨gg.b, fun a o q _ => gg.h a o q, fun a ⟨i, z⟩ => ?_, fun a o q => (gg.c a o q).elim .inl fun z => .inr (.inr z), fun a o q => ⟨o, gg.h a o q⟩⟩
    cases i with
    | zero => exact .inr (by have z' : a = x := z; rw [z']; exact hx)
    | succ i => exact .inl ⟨i, z⟩
  unfold mkInsT at h
  cases q : F (O.tr (.ins c [] []) :: os) with
  | none => rw [q] at h; exact h.elim
  | some rf =>
    rw [q] at h
    cases rf with
    | ex y os1 =>
      cases os1 with
      | nil => exact h.elim
      | cons o1 os' =>
        intro C' d fs B' H' S' lo hC' r' hd hf hdn f'
        have h' : ∀ (C d : Addr) (fs : List (Str × V)) (B' H' : Hp) (S' : Nat → Addr → Prop), os'.length = vs.length → mg y.cls = some (.ref C) → Rp K B' H' (vs.map some) (os'.map some) S' → H' d = some (.xd fs) → XF K B' fs y.fs → H d = none → Fr B H (tot S) B' H' (tot S') → E (.ref C) (some d) H' := h
        refine h' C' d fs B' H' (fun i => S' (i + 1)) (by rw [List.length_cons, List.length_cons] at lo; omega) hC' ⟨by have := r'.len; simpa using this, r'.ex, fun i o ho => r'.rep (i + 1) o ho, fun i j a h1 h2 => by have := r'.dis (i + 1) (j + 1) a h1 h2; omega, fun i a h1 => r'.own (i + 1) a h1⟩ hd hf (gg.fr (tot S) |>.back hdn) ?_
        exact (fr0.trans f').imp (fun _ z => z) fun a ⟨i, z⟩ => ⟨i + 1, z⟩
    | ok o1 os1 =>
      match o1, os1, h with
      | .fr .non, .tr t :: os', h =>
        intro v B' H' S' T lo vl f'
        have h' : ∀ v B' H' S' T, os'.length = vs.length → Vl K B' H' (vs.map some) (os'.map some) S' v (.tr t) T → Fr B H (tot S) B' H' (fun a => T a ∨ tot S' a) → Q v H' := h
        have hv := vl.ro.1
        cases hv
        refine ⟨rfl, ?_⟩
        obtain ⟨w, hw, ro⟩ := vl.rp.rep 0 (.tr t) rfl
        have hw' : some (some (V.ref x)) = some (some w) := hw
        cases hw'
        refine h' (.ref x) B' H' (fun i => S' (i + 1)) (S' 0) (by rw [List.length_cons, List.length_cons] at lo; omega) ⟨⟨by have := vl.rp.len; simpa using this, vl.rp.ex, fun i o ho => vl.rp.rep (i + 1) o ho, fun i j a h1 h2 => by have := vl.rp.dis (i + 1) (j + 1) a h1 h2; omega, fun i a h1 => vl.rp.own (i + 1) a h1⟩, ro, vl.rp.own 0, fun a h1 ⟨i, h2⟩ => by have := vl.rp.dis 0 (i + 1) a h1 h2; omega⟩ ?_
        refine (fr0.trans (f'.imp (fun _ z => z) fun a z => .inr z)).imp (fun _ z => z) fun a z => ?_
        rcases z with z | ⟨i, z⟩
        · exact ⟨0, z⟩
        · exact ⟨i + 1, z⟩
section
variable {X : Cx} {W : WX} {x c m : Str} {p pos apos : Pos} {e o : Expr} {es : List Expr} {k j n i : Nat} {F : Fn} {ps : List P}
theorem d_makeT (C : ClM X.prog X.w X.K X.mg X.base k x n F) (hr : Room j X.A) (tk : Takes X W) (ha : PA X (e :: es) (tPs X.K X.mg W ps)) (hk : k + 1 ≤ j := by decide) (hg : Gl X x := by rfl) (hn : n = ps.length := by rfl) (nd : (bs ps).Nodup := by decide)
    (hdb : (x == ("__debug__" : Str)) = false := by decide) (he : starEach (e :: es) X.env = (false, eval e X.env) :: starEach es X.env := by rfl) (hpl : (backTo pos (starEach es X.env)).any (·.1) = false := by rfl) :
    PE X (.Call (.Name x p) (e :: es) [] pos) (tE X.K X.mg W (eCall (mkInsT x F) ps [])) := by
  obtain ⟨C0, f, fd, pn, h0, h1, h2, h3, h4, h5⟩ := C.ex
  refine ⟨fun pins s σ H Q I h => ?_⟩
  have hc := call_core (X := X) (W := W) (n := n) (dvs := []) (dv := []) (F := mkInsT x F) rfl (by rw [hn]; rfl) nd (fun _ => .nil) h
  refine wpAny_Call_Name_kw (ld_glob I hg h3 ?_ hdb)
  refine PySem.W.callWith_K (h₀ := X.base) I.ok.mod.kin h2.kp (thn (ha.run pos pins s σ H _ I hc) fun us s1 ⟨vs, H1, I1, r, q⟩ => ⟨I1.kIn, ?_⟩) he hpl
  have q1 : spD X.K X.mg n (mkInsT x F) (vs ++ []) H1 Q (WE W σ) := q
  rw [List.append_nil] at q1
  have q' := spD_makeT h4 q1
  refine run_makeSD (E := WE W σ) h2 h1 (hr.mono hk) h5 (passAt tk σ) I1 r ?_
  rw [h0]
  exact q'
/-- a method of a class of the module -/
structure MthC (P : Program) (w : World) (K : PySem.W.Frag) (mg : Str → Option Value) (base : Heap) (k : Nat) (c m : Str) (n : Nat) (F : Fn) : Prop where
  ex : ∃ (C f : Addr) (fd : FuncData) (ps : List Str), ps.length = n ∧ ClsN K c C ∧ Cls K C ∧ Meth K C m f ∧ FnOk P w K mg base (L2.CX P w) k f fd ps (spD K mg ps.length F) ∧ Binds K fd ps []
/-- x.m(..), x an instance that changes -/
def eMth (c m : Str) (i : Nat) (F : Fn) (ps : List P) : M O := fun e => match e[i]? with
  | some (some (.tr (.ins c' ns _))) => if c' = c ∧ m ∉ ns then eCall F (.b i :: ps) [] e else none
  | _ => none
theorem lookup_no {m : Str} : ∀ {fs : List (Str × V)}, m ∉ fs.map (·.1) → fs.lookup m = none
  | [], _ => rfl
  | (g, v) :: fs, h => by
    rw [List.map_cons, List.mem_cons, not_or] at h
    rw [List.lookup_cons, show (m == g) = false from beq_eq_false_iff_ne.mpr h.1]
    exact lookup_no h.2
theorem tPs_mono {K : PySem.W.Frag} {mg : Str → Option Value} {W : WX} : ∀ (ps : List P) (σ : St) (H : Hp) (Q Q' : List V → Hp → Prop), (∀ vs H, Q vs H → Q' vs H) → tPs K mg W ps σ H Q → tPs K mg W ps σ H Q'
  | [], _, _, _, _, hq, t => hq _ _ t
  | p :: ps, σ, H, _, _, hq, t => tP_mono p σ H _ _ (fun x H1 t => tPs_mono ps σ H1 _ _ (fun xs H2 => hq (x :: xs) H2) t) t
theorem mth_core {C : Addr} {K : PySem.W.Frag} {σ : St} {H : Hp} {Q : VK} (hC : ClsN X.K c C) (hn : n = ps.length + 1) (nd : (bs (P.b i :: ps)).Nodup) (h : tE X.K X.mg W (eMth c m i F ps) σ H Q) :
    ∃ a dx fs, σ[i]? = some (some (.ref a)) ∧ H a = some (.ins C dx fs) ∧ fs.lookup m = none ∧ tPs X.K X.mg W ps σ H fun vs H1 => spD X.K X.mg n F (.ref a :: vs) H1 Q (WE W σ) := by
  obtain ⟨B, e, S, r, h⟩ := h
  unfold eMth at h
  cases q : e[i]? with
  | none => rw [q] at h; exact h.elim
  | some u =>
    rw [q] at h
    cases u with
    | none => exact h.elim
    | some o =>
      cases o with
      | tr t =>
        cases t with
        | ins c' ns ts =>
          dsimp only at h
          by_cases hc : c' = c ∧ m ∉ ns
          · rw [if_pos hc] at h
            obtain ⟨rfl, hm⟩ := hc
            obtain ⟨v, hv, ro⟩ := r.rep i _ q
            cases (show RepT X.K B H v (.ins c' ns ts) (S i) from ro) with
            | ins k1 k2 k3 k4 k5 k6 =>
              obtain rfl := k2.one hC
              refine ⟨_, _, _, hv, k1, lookup_no (by rw [k3]; exact hm), ?_⟩
              have hc := call_core (X := X) (W := W) (n := n) (dvs := []) (dv := []) (F := F) (ps := P.b i :: ps) (Q := Q) rfl (by rw [hn]; rfl) nd (fun _ => .nil) ⟨B, e, S, r, h⟩
              obtain ⟨w, hw, hc⟩ := hc
              rw [hv] at hw
              cases hw
              rename_i p0 dx0 C0 fs0 S0
              refine tPs_mono ps _ _ _ _ (fun vs H1 t => ?_) hc
              have t' : spD X.K X.mg n F ((V.ref p0 :: vs) ++ []) H1 Q (WE W σ) := t
              rw [List.append_nil] at t'
              exact t'
          · rw [if_neg hc] at h; exact h.elim
        | _ => exact h.elim
      | _ => exact h.elim
theorem d_meth {pl : Sem Bool} (M : MthC X.prog X.w X.K X.mg X.base k c m n F) (hr : Room j X.A) (tk : Takes X W) (hv : PE X o (tVar i)) (ha : PA X (e :: es) (tPs X.K X.mg W ps)) (hk : k ≤ j := by decide) (hn : n = ps.length + 1 := by rfl) (nd : (bs (P.b i :: ps)).Nodup := by decide)
    (hst : starEach (e :: es) X.env = (false, eval e X.env) :: starEach es X.env := by rfl) (hpl : (backTo pos (starEach es X.env)).any (·.1) = false := by rfl)
    (ht : eval (.Call (.Attribute o m apos) (e :: es) [] pos) X.env = (do
      let ov ← eval o X.env
      standAt apos.atName
      let (f, first) ← holding [ov] (getMethod ov m pl)
      callWith pos f first (backTo pos (starEach (e :: es) X.env)) (backToKw pos (keywordEach [] X.env))) := by rfl) :
    PE X (.Call (.Attribute o m apos) (e :: es) [] pos) (tE X.K X.mg W (eMth c m i F ps)) := by
  obtain ⟨C, f, fd, pn, h0, h1, h2, h3, h4, h5⟩ := M.ex
  refine ⟨fun pins s σ H Q I h => ?_⟩
  obtain ⟨a, dx, fs, g1, g2, g3, q⟩ := mth_core (X := X) (K := X.K) h1 hn nd h
  refine PySem.W.methodCall_KW (pl := pl) (thn (hv.run pins s σ H (fun x H1 => x = .ref a ∧ H1 a = some (.ins C dx fs) ∧ tPs X.K X.mg W ps σ H1 fun vs H1 => spD X.K X.mg n F (.ref a :: vs) H1 Q (WE W σ)) I ⟨_, g1, rfl, g2, q⟩) fun u s1 ⟨x, H1, I1, rx, ex, ea, q⟩ => ?_) ht
  subst ex
  obtain rfl : u = Value.ref a := rx
  refine getmeth_ok I1 ea h2 h3 g3 ?_
  refine PySem.W.callWith_K (first := [.ref a]) (h₀ := X.base) I.ok.mod.kin h3.kp (thn (ha.run pos pins s1 σ H1 _ I1 q) fun us s2 ⟨vs, H2, I2, r, q2⟩ => ⟨I2.kIn, ?_⟩) hst hpl
  refine run_fnSD (us := .ref a :: us) (vs := .ref a :: vs) (ds := []) (dvs := []) (E := WE W) h4 (hr.mono hk) h5 .nil (passAt tk σ) I2 (.cons rfl r) ?_
  rw [List.append_nil, h0]
  exact q2
theorem d_meth0 {pl : Sem Bool} (M : MthC X.prog X.w X.K X.mg X.base k c m n F) (hr : Room j X.A) (tk : Takes X W) (hv : PE X o (tVar i)) (hk : k ≤ j := by decide) (hn : n = 1 := by rfl)
    (ht : eval (.Call (.Attribute o m apos) [] [] pos) X.env = (do
      let ov ← eval o X.env
      standAt apos.atName
      let (f, first) ← holding [ov] (getMethod ov m pl)
      callWith pos f first (backTo pos (starEach [] X.env)) (backToKw pos (keywordEach [] X.env))) := by rfl) :
    PE X (.Call (.Attribute o m apos) [] [] pos) (tE X.K X.mg W (eMth c m i F [])) := by
  obtain ⟨C, f, fd, pn, h0, h1, h2, h3, h4, h5⟩ := M.ex
  refine ⟨fun pins s σ H Q I h => ?_⟩
  obtain ⟨a, dx, fs, g1, g2, g3, q⟩ := mth_core (X := X) (K := X.K) (ps := []) h1 hn (by simp [bs]) h
  refine PySem.W.methodCall_KW (pl := pl) (thn (hv.run pins s σ H (fun x H1 => x = .ref a ∧ H1 a = some (.ins C dx fs) ∧ spD X.K X.mg n F [.ref a] H1 Q (WE W σ)) I ⟨_, g1, rfl, g2, q⟩) fun u s1 ⟨x, H1, I1, rx, ex, ea, q⟩ => ?_) ht
  subst ex
  obtain rfl : u = Value.ref a := rx
  refine getmeth_ok I1 ea h2 h3 g3 ?_
  refine PySem.W.callWith_K0 (first := [.ref a]) I1.kIn h3.kp (run_fnSD (us := [.ref a]) (vs := [.ref a]) (ds := []) (dvs := []) (E := WE W) h4 (hr.mono hk) h5 .nil (passAt tk σ) I1 (.cons rfl .nil) ?_)
  rw [List.append_nil, h0]
  exact q
end
end Dn

namespace Dn
open PySem L2

/-! ## 57. Evaluation: instances that change (the slot's content goes through functions, so that a text may keep it closed) -/
def fldO (c f : Str) : Option O → Option (List L2.Key × List D)
  | some (.tr (.ins c' ns ts)) => if c' = c then (match getT ns ts f with
    | some (.dct ks xs) => some (ks, xs)
    | _ => none) else none
  | _ => none
def putO (f : Str) (ks : List L2.Key) (xs : List D) : Option O → Option O
  | some (.tr (.ins c ns ts)) => some (.tr (.ins c ns (putTx ns ts f (.dct ks xs))))
  | o => o
def setFO (c f : Str) (t : T) : Option O → Option O
  | some (.tr (.ins c' ns ts)) => if c' = c ∧ ns.length < 1000 then some (.tr (.ins c' (putFn ns f) (putTx ns ts f t))) else none
  | _ => none
def rdO (p : List Stp) : Option O → Option D
  | some (.tr t) => match T.sub t p with
    | some (.fr d) => some d
    | _ => none
  | _ => none
def okM (c m : Str) : Option O → Bool
  | some (.tr (.ins c' ns _)) => decide (c' = c ∧ m ∉ ns)
  | _ => false
def keyO' : Option O → Option L2.Key
  | some (.fr d) => keyD d
  | _ => none
section
variable {e : Sl}
theorem fldD_g {c f : Str} {i : Nat} : fldD c f e i = fldO c f (getO e i) := by
  unfold fldD getO
  cases e[i]? with
  | none => rfl
  | some u =>
    cases u with
    | none => rfl
    | some o =>
      cases o with
      | tr t => cases t <;> rfl
      | _ => rfl
theorem keyS_g {j : Nat} : keyS e j = keyO' (getO e j) := by
  unfold keyS getO
  cases e[j]? with
  | none => rfl
  | some u =>
    cases u with
    | none => rfl
    | some o => cases o <;> rfl
def rdR (e : Sl) : Option D → Option (Ro O)
  | some d => some (.ok (.fr d) e)
  | none => none
theorem rdR_s {d : D} : rdR e (some d) = some (.ok (.fr d) e) := nr rfl
theorem eRead_h (i : Nat) (path : List Stp) : eRead i path e = rdR e (rdO path (getO e i)) := by
  unfold eRead getO
  cases e[i]? with
  | none => rfl
  | some u =>
    cases u with
    | none => rfl
    | some o =>
      cases o with
      | tr t =>
        show (match T.sub t path with
          | some (.fr d) => some (.ok (.fr d) e)
          | _ => none) = rdR e (match T.sub t path with
          | some (.fr d) => some d
          | _ => none)
        cases T.sub t path with
        | none => rfl
        | some t' => cases t' <;> rfl
      | _ => rfl
def mthR (e : Sl) (i : Nat) (F : Fn) (ps : List P) : Bool → Option (Ro O)
  | true => eCall F (.b i :: ps) [] e
  | false => none
theorem mthR_t {i : Nat} {F : Fn} {ps : List P} : mthR e i F ps true = eCall F (.b i :: ps) [] e := nr rfl
theorem eMth_h (c m : Str) (i : Nat) (F : Fn) (ps : List P) : eMth c m i F ps e = mthR e i F ps (okM c m (getO e i)) := by
  unfold eMth getO
  cases e[i]? with
  | none => rfl
  | some u =>
    cases u with
    | none => rfl
    | some o =>
      cases o with
      | tr t =>
        cases t with
        | ins c' ns ts =>
          show (if c' = c ∧ m ∉ ns then eCall F (.b i :: ps) [] e else none) = mthR e i F ps (decide (c' = c ∧ m ∉ ns))
          by_cases h : c' = c ∧ m ∉ ns
          · rw [if_pos h, decide_eq_true h]; rfl
          · rw [if_neg h, decide_eq_false h]; rfl
        | _ => rfl
      | _ => rfl
def getR (e : Sl) : Option (List L2.Key × List D) → Option L2.Key → Option (Ro O)
  | some (ks, xs), some k => some (.ok (.fr ((getK ks xs k).getD .non)) e)
  | _, _ => none
theorem getR_s {ks : List L2.Key} {xs : List D} {k : L2.Key} : getR e (some (ks, xs)) (some k) = some (.ok (.fr ((getK ks xs k).getD .non)) e) := nr rfl
theorem eGetF_h (c f : Str) (i j : Nat) : eGetF c f i j e = getR e (fldO c f (getO e i)) (keyO' (getO e j)) := by
  unfold eGetF
  rw [fldD_g, keyS_g]
  cases fldO c f (getO e i) with
  | none => rfl
  | some u =>
    obtain ⟨ks, xs⟩ := u
    cases keyO' (getO e j) <;> rfl
def keysR (e : Sl) : Option (List L2.Key × List D) → Option (Ro O)
  | some (ks, _) => some (.ok (.lst (ks.map keyO)) e)
  | none => none
theorem keysR_s {ks : List L2.Key} {xs : List D} : keysR e (some (ks, xs)) = some (.ok (.lst (ks.map keyO)) e) := nr rfl
theorem eKeysF_h (c f : Str) (i : Nat) : eKeysF c f i e = keysR e (fldO c f (getO e i)) := by
  unfold eKeysF
  rw [fldD_g]
  cases fldO c f (getO e i) with
  | none => rfl
  | some u => rfl
def setR (e : Sl) (i : Nat) : Option O → Option (Ro Fl)
  | some o => some (.ok .next (e.set i (some o)))
  | none => none
theorem setR_s {i : Nat} {o : O} : setR e i (some o) = some (.ok .next (e.set i (some o))) := nr rfl
theorem sSetFT_h (c f : Str) (i : Nat) (g : M O) : sSetFT c f i g e = @thn' _ _ (g e) ⟨fun o e1 => setR e1 i (setFO c f o.t (getO e1 i))⟩ := by
  unfold sSetFT
  rw [bind_a]
  have k : ∀ (e1 : Sl) (o : O), (match e1[i]? with
    | some (some (.tr (.ins c' ns ts))) => if c' = c ∧ ns.length < 1000 then some (.ok .next (e1.set i (some (.tr (.ins c' (putFn ns f) (putTx ns ts f o.t)))))) else none
    | _ => none) = setR e1 i (setFO c f o.t (getO e1 i)) := fun e1 o => by
    unfold getO
    cases e1[i]? with
    | none => rfl
    | some u =>
      cases u with
      | none => rfl
      | some o1 =>
        cases o1 with
        | tr t =>
          cases t with
          | ins c' ns ts =>
            show (if c' = c ∧ ns.length < 1000 then _ else none) = setR e1 i (if c' = c ∧ ns.length < 1000 then _ else none)
            by_cases h : c' = c ∧ ns.length < 1000
            · rw [if_pos h, if_pos h]; rfl
            · rw [if_neg h, if_neg h]; rfl
          | _ => rfl
        | _ => rfl
  cases g e with
  | none => rfl
  | some r =>
    cases r with
    | ex x e1 => rfl
    | ok o e1 => exact k e1 o
def putR (e : Sl) (i : Nat) (f : Str) (d : D) : Option (List L2.Key × List D) → Option L2.Key → Option (Ro Fl)
  | some (ks, xs), some k => if ks.length < sizeLine then setR e i (putO f (putKs ks k) (putXs ks xs k d) (getO e i)) else none
  | _, _ => none
theorem putR_s {i : Nat} {f : Str} {d : D} {ks : List L2.Key} {xs : List D} {k : L2.Key} (h : ks.length < sizeLine) : putR e i f d (some (ks, xs)) (some k) = setR e i (putO f (putKs ks k) (putXs ks xs k d) (getO e i)) := if_pos h
theorem sPutF_h (c f : Str) (i j : Nat) (g : M O) : sPutF c f i j g e = @thn' _ _ (g e) ⟨fun o e1 => putR e1 i f o.d (fldO c f (getO e1 i)) (keyO' (getO e1 j))⟩ := by
  unfold sPutF
  rw [bind_a]
  cases g e with
  | none => rfl
  | some r =>
    cases r with
    | ex x e1 => rfl
    | ok o e1 =>
      show (match fldD c f e1 i with
        | some (ks, xs) => (match keyS e1 j with
          | some k => if ks.length < sizeLine then some (Ro.ok Fl.next (setD f e1 i (putKs ks k) (putXs ks xs k o.d))) else none
          | none => none)
        | none => none) = putR e1 i f o.d (fldO c f (getO e1 i)) (keyO' (getO e1 j))
      rw [fldD_g, keyS_g]
      cases q : fldO c f (getO e1 i) with
      | none => rfl
      | some u =>
        obtain ⟨ks, xs⟩ := u
        cases keyO' (getO e1 j) with
        | none => rfl
        | some k =>
          show (if ks.length < sizeLine then _ else none) = (if ks.length < sizeLine then _ else none)
          by_cases hl : ks.length < sizeLine
          · rw [if_pos hl, if_pos hl]
            unfold setD getO
            unfold getO at q
            cases e : e1[i]? with
            | none => rw [e] at q; cases q
            | some u =>
              rw [e] at q
              cases u with
              | none => cases q
              | some o1 =>
                cases o1 with
                | tr t =>
                  cases t with
                  | ins c' ns ts => rfl
                  | _ => cases q
                | _ => cases q
          · rw [if_neg hl, if_neg hl]
end
end Dn

namespace Dn
open PySem L2 PyProof.Rows
open Evl (Ex)
open AutoSeq1 (wpAny_loadPart')

/-! ## 58. enumerate(tuple) -/
theorem en_newT (t : Addr) (items : Array Value) (n : Nat) (dct : Option Addr) (sl : Array (Option Value)) :
    Meets (Builtin.«enumerate.__new__» ⟨[.type "enumerate", .ref t], []⟩) (fun _ R s => s.heap.get? t = some { cls := .type "tuple", dict := dct, data := .seq items n, slots := sl } ∧
      R (.ok (.ret (.ref (s.heap.push { cls := .type "tuple_iterator", data := .fields #[.ref t, .int 0 0] }).objs.size)))
        { s with heap := (s.heap.push { cls := .type "tuple_iterator", data := .fields #[.ref t, .int 0 0] }).push { cls := .type "enumerate", data := .fields #[.none, .bool false, .ref s.heap.objs.size, rawInt 0, .none, .none] } }) :=
  .of_wp fun prog w A R s h => by
    obtain ⟨hp, g, d, tk, os⟩ := s; obtain ⟨hl, h⟩ := h
    have hsub := sub_enumerate
    have hL : Heap.IsTuple (Shared.heap ⟨hp, g, d, tk, os⟩) t items := ⟨_, hl, rfl, n, rfl⟩
    wp_walk using wpAny_loadPart' hl
    refine wpAny_stack_any fun st => wpAny_pure ?_
    split
    · rename_i c _ _ _ _ _
      cases (c == Value.type "enumerate")
      · wp_walk using wpAny_loadPart' hl, wpAny_pyIter_tuple hL
        exact ⟨_, rfl, h⟩
      · wp_walk using wpAny_loadPart' hl, wpAny_pyIter_tuple hL
        exact ⟨_, rfl, h⟩
    · wp_walk using wpAny_loadPart' hl, wpAny_pyIter_tuple hL
      exact ⟨_, rfl, h⟩
section
variable {prog : Program} {w : World} {A : Around} {E : Value → Shared → Prop} {s : Shared}
theorem en_callT {t : Addr} {items : Array Value} {Q : Value → Shared → Prop} (hL : s.heap.IsTuple t items)
    (h : ∀ h', IsEnum h' (s.heap.objs.size + 1) s.heap.objs.size 0 .none → h'.IsTupleIter s.heap.objs.size t 0 → h'.objs.size = s.heap.objs.size + 2 →
      (∀ b o, s.heap.get? b = some o → h'.get? b = some o) → Q (.ref (s.heap.objs.size + 1)) { s with heap := h' }) :
    wpAny (model prog w) A (call (.type "enumerate") [.ref t]) Q E s := by
  obtain ⟨⟨c, dct, dt, sl⟩, hl, hc, n, hd⟩ := hL
  replace hc : c = .type "tuple" := hc
  replace hd : dt = .seq items n := hd
  subst hc hd
  refine callType_new F.called_enumerate (by decide) (F.typeCall_enumerate_1 _) (F.newCall_enumerate_1 _) (fun obj => F.args_object_init_2 obj _) F.entry_enumerate_new
    (en_newT t items n dct sl) ⟨hl, ?_⟩
  have hz : (s.heap.push { cls := .type "tuple_iterator", data := .fields #[.ref t, .int 0 0] }).objs.size = s.heap.objs.size + 1 := Heap.size_push ..
  show _ ∧ _
  rw [hz]
  have he : IsEnum ((s.heap.push { cls := .type "tuple_iterator", data := .fields #[.ref t, .int 0 0] }).push
      { cls := .type "enumerate", data := .fields #[.none, .bool false, .ref s.heap.objs.size, rawInt 0, .none, .none] }) (s.heap.objs.size + 1) s.heap.objs.size 0 .none := by
    have := Heap.get?_push_size (s.heap.push { cls := .type "tuple_iterator", data := .fields #[.ref t, .int 0 0] })
      (o := { cls := .type "enumerate", data := .fields #[.none, .bool false, .ref s.heap.objs.size, rawInt 0, .none, .none] }) rfl
    rw [hz] at this; exact this
  refine ⟨⟨_, he, rfl⟩, h _ he ⟨_, Heap.get?_push_of_some _ (Heap.get?_push_size _ rfl), rfl, rfl⟩ (by rw [Heap.size_push, hz]) fun b o x => Heap.get?_push_of_some _ (Heap.get?_push_of_some _ x)⟩
end
/-- the tuple at a, each item in a new pair -/
def IteT (K : PySem.W.Frag) (a : Addr) : It :=
  ⟨fun i H => ∃ (xs : List V) (x : V), SqT K H a xs ∧ xs[i]? = some x, fun i H v H' => ∃ T x, v = .ref T ∧ H T = none ∧ H' = L2.upd H T (.tup [.int (i : Nat), x]) ∧ ∀ xs, SqT K H a xs → xs[i]? = some x, fun i H => ∃ xs : List V, SqT K H a xs ∧ xs.length = i⟩
theorem turn_enT {P : Program} {w : World} {K : PySem.W.Frag} {elts : List Expr} {kk : Nat} {tpos : Pos} (a e it : Addr) :
    Turn P w K (.Tuple elts kk tpos) (IteT K a) [e, it] e (fun i h => (∃ old, IsEnum h e it ((i : Nat) : Int) old) ∧ h.IsTupleIter it a i ∧ e ≠ it ∧ a ≠ it ∧ a ≠ e) where
  mem := by simp
  obj := fun i h st b hb => by
    obtain ⟨⟨old, he⟩, ⟨o, ho, hc, hd⟩, _⟩ := st
    have e' : b = e ∨ b = it := by simpa using hb
    rcases e' with z | z
    · rw [z]; exact ⟨_, he, fun v q => nomatch q⟩
    · rw [z]; exact ⟨o, ho, fun v q => by rw [hd] at q; cases q⟩
  keep := fun i h h' st k => let ⟨⟨old, he⟩, hi, hne⟩ := st; ⟨⟨old, k e (by simp) _ he⟩, hi.at fun o q => k it (by simp) o q, hne⟩
  item := by
    intro X hP hw hK hc i pins s σ H E I hf st hg
    subst hP hw hK
    obtain ⟨⟨old, he⟩, hit, hne, n1, n2⟩ := st
    obtain ⟨xs, x, hq, hx⟩ := hg
    obtain ⟨its, rv, p, hz⟩ := I.tuple hq
    obtain ⟨u, hu, ru⟩ := rv.get hx
    have hel : e < s.heap.objs.size := Heap.lt_size he
    have hil : it < s.heap.objs.size := by obtain ⟨_, q, _⟩ := hit; exact Heap.lt_size q
    have lt : i < its.toArray.size := by have := (List.getElem?_eq_some_iff.mp hu).1; simpa using this
    refine wpAny_pyNext_enum_itemD (drawT (A := X.A.in1) (show X.A.in1.handled = none from I.ok.hd hc) it a n1 its.toArray) he ⟨hit, p⟩ lt hne (by simp [hne, n2.symm]) fun x1 h' tk hP ho hit' hT hsz hk => ?_
    have ex : x1 = u := by
      have h1 : its[i]? = some x1 := by simpa using hP
      rw [hu] at h1
      injection h1 with h1
      exact h1.symm
    subst ex
    refine ⟨_, rfl, wpAny_letOwnedTupleGo_enum (s := { s with heap := h', toks := tk + 1 }) ho fun h'' he' sb => ?_⟩
    have hT2 : h''.get? s.heap.objs.size = some { cls := .type "tuple", data := .seq #[.int i tk, x1] } := (sb.2 _ (Nat.ne_of_gt hel)).trans hT
    have new : ObjOk X.prog X.w (L2.upd H s.heap.objs.size (.tup [.int (i : Nat), x])) h'' s.heap.objs.size (.tup [.int (i : Nat), x]) :=
      ⟨by show 2 ≤ sizeLine; decide, [.int i tk, x1], .cons ⟨_, rfl⟩ (.cons ru .nil), ⟨_, hT2, rfl, _, rfl⟩⟩
    have I1 : Inv X pins σ (L2.upd H s.heap.objs.size (.tup [.int (i : Nat), x])) { s with heap := h'', toks := tk + 1 } :=
      I.turnedNew (ch := [e, it]) (fun b ob hb q => (sb.2 b (fun z => hb (by simp [z]))).trans (hk b ob (fun z => hb (by simp [z])) (fun z => hb (by simp [z])) q)) hf (Nat.le_refl _) new
    refine ⟨.ref s.heap.objs.size, _, I1, rfl, ⟨_, x, rfl, I.hok.fresh (Nat.le_refl _), rfl, fun ys hy => by rw [I.tuple_inj hy hq]; exact hx⟩, ⟨⟨x1, ?_⟩, hit'.1.at fun o q => (sb.2 it (Ne.symm hne)).trans q, hne, n1, n2⟩, fun b hb => ?_⟩
    · have e1 : ((i + 1 : Nat) : Int) = (i : Int) + 1 := by omega
      rw [e1]; exact he'
    · have hb' : b < s.heap.objs.size := by
        have e' : b = e ∨ b = it := by simpa using hb
        rcases e' with z | z
        · rw [z]; exact hel
        · rw [z]; exact hil
      rw [upd_ne (Nat.ne_of_lt hb')]
      exact (hf b hb).1
  done := by
    intro X hP hw hK hc i pins s σ H E I hf st hg
    subst hP hw hK
    obtain ⟨⟨old, he⟩, hit, hne, n1, n2⟩ := st
    obtain ⟨xs, hq, hx⟩ := hg
    obtain ⟨its, rv, p, hz⟩ := I.tuple hq
    obtain ⟨f0, f1, f2, f3, f4, f5⟩ := hf it (by simp)
    have hl := rv.length
    have hi : i = its.toArray.size := by simp; omega
    subst hi
    exact wpAny_pyNext_enum_endD (drawT (A := X.A.in1) (show X.A.in1.handled = none from I.ok.hd hc) it a n1 its.toArray) he ⟨hit, p⟩ fun h' eb => ⟨rfl, I.turned (t' := s.toks) (fun b o hb q => eb b o hb q) f0 f1 f3 f4 f5⟩
  self := fun A i s Q E st h => let ⟨⟨_, he⟩, _⟩ := st; wpAny_pyIter_enum he h
def iEnumT (K : PySem.W.Frag) (ta : TA) : TI := fun σ H R => ta σ H fun vs H1 => ∃ a xs, vs = [.ref a] ∧ SqT K H1 a xs ∧ R (IteT K a) H1
theorem walkT {K : PySem.W.Frag} {a : Addr} {xs : List V} : Walk (IteT K a) xs.length (fun H => SqT K H a xs) (YPair (fun i => some (.int (i : Nat))) (fun i => xs[i]?)) := by
  constructor
  · rintro i H hi q
    exact ⟨xs, xs[i], q, List.getElem?_eq_getElem hi⟩
  · rintro H q
    exact ⟨xs, q, rfl⟩
  · rintro i H v H' _ q ⟨T, x, e1, e2, e3, e4⟩
    exact ⟨T, _, x, e1, e2, e3, rfl, e4 xs q⟩
theorem walkD_enT {K : PySem.W.Frag} {B H : Hp} {a : Addr} {xs : List V} {ds : List D} (h : SqT K B a xs) (r : RepL K B xs ds) : WalkD K (IteT K a) B (enumD 0 ds) := by
  refine ⟨_, _, by rw [enumD_len, ← r.length]; exact walkT (xs := xs), fun H e => Evl.ex_t e h, fun i H x H' B1 hi h1 h2 y => ?_⟩
  obtain ⟨T, u, v, rfl, hT, rfl, hu, hv⟩ := y
  cases hu
  obtain ⟨d, hd, rd⟩ := r.get' hv
  have g := Gr.new h2 hT (.tup [.int (i : Nat), v])
  refine ⟨_, .tup [.int ((0 + i : Nat) : Int), d], g, enumD_get ds 0 i d hd, .tup (.inl upd_same) ?_⟩
  rw [Nat.zero_add]
  exact .cons (.int _) (.cons ((rd.mono h1).mono g.b) .nil)
def sEnumT (f : M O) : M (List D) := (items [f]).bind fun ds e => match ds with
  | [.tup xs] => some (.ok (enumD 0 xs) e)
  | _ => none
section
variable {X : Cx} {W : WX} {e : Expr} {ta : TA} {p pos tpos : Pos} {elts : List Expr} {kk : Nat} {f : M O}
theorem pi_enumT (hg : Gl X "enumerate") (hm : X.mg "enumerate" = none) (ha : PA X [e] ta) (hs : starEach [e] X.env = [(false, eval e X.env)] := by rfl) :
    PI X (.Tuple elts kk tpos) (.Call (.Name "enumerate" p) [e] [] pos) (iEnumT X.K ta) := by
  refine ⟨fun pins s σ H R I h => ?_⟩
  refine Call_ (ld_blt I hg hm boot_enumerate (PyProof.Rows.callWith_type1 (thn (ha.run pos pins s σ H _ I h) fun us s1 ⟨vs, H1, I1, r1, q1⟩ => ?_) hs rfl))
  obtain ⟨a, xs, ex, hq, q⟩ := q1
  subst ex
  cases r1 with
  | cons r rr =>
    cases rr
    cases r
    obtain ⟨its, rv, p', hz⟩ := I1.tuple hq
    obtain ⟨o1, ho1, _⟩ := id p'
    have la := Heap.lt_size ho1
    refine en_callT p' fun h' he hit hsz hk => wpAny_pyIter_enum he ?_
    have I2 : Inv X pins σ H1 { s1 with heap := h' } := I1.kept (t' := s1.toks) hk
    refine ⟨s1.heap.objs.size + 1, [s1.heap.objs.size + 1, s1.heap.objs.size], _, _, H1, rfl, I2, turn_enT a (s1.heap.objs.size + 1) s1.heap.objs.size, ⟨⟨.none, he⟩, hit, Nat.succ_ne_self _, Nat.ne_of_lt la, Nat.ne_of_lt (Nat.lt_succ_of_lt la)⟩, fun b hb => ?_, q⟩
    have e' : b = s1.heap.objs.size + 1 ∨ b = s1.heap.objs.size := by simpa using hb
    have hle : s1.heap.objs.size ≤ b := by
      rcases e' with z | z
      · rw [z]; exact Nat.le_add_right _ _
      · rw [z]; exact Nat.le_refl _
    exact I1.fpOk hle (I1.hok.fresh hle)
theorem i_enumT (hg : Gl X "enumerate") (hm : X.mg "enumerate" = none) (ha : PE X e (tE X.K X.mg W f)) (hs : starEach [e] X.env = [(false, eval e X.env)] := by rfl) :
    PI X (.Tuple elts kk tpos) (.Call (.Name "enumerate" p) [e] [] pos) (tSrc X.K X.mg W (sEnumT f)) := pi_imp (pi_enumT hg hm (is_c (f := f) ha is_n hs) hs) fun σ H R h => by
  obtain ⟨B, e, S, r, h⟩ := h
  refine items_run [f] _ r (h.bind.imp (fun ds e' h2 vs B' H' S' r' rl fr => ?_) fun _ _ z => z)
  cases rl with
  | nil => exact h2.elim
  | cons rv rl =>
    cases rl with
    | cons _ _ => cases rv <;> exact h2.elim
    | nil =>
      cases rv with
      | tup k1 k2 => exact ⟨_, _, rfl, Evl.ex_t r'.ex k1.sq, (show ∀ J B' H' S', Rp X.K B' H' σ e' S' → Fr B H (tot S) B' H' (tot S') → WalkD X.K J B' _ → R J H' from h2) _ B' H' S' r' fr (walkD_enT (H := H') k1.sq k2)⟩
      | _ => exact h2.elim
end
theorem sEnumT_e {e : Sl} (f : M O) : sEnumT f e = @thn' _ _ (f e) ⟨fun o e1 => match [o.d] with
  | [.tup xs] => some (.ok (enumD 0 xs) e1)
  | _ => none⟩ := by
  unfold sEnumT M.bind
  rw [items_c]
  cases f e with
  | none => rfl
  | some r => cases r with
    | ex x e1 => rfl
    | ok o e1 => rfl
end Dn

namespace Dn
open PySem L2
open He (ga ma eqO eqO_ok ba)

/-! ## 60. The head: facts of the written part, read by one kernel run -/
theorem excX_ok {K : PySem.W.Frag} {C : Addr} (h : excX K C = true) : ∃ (nm q : Str) (N : Addr) (bs bm : List Value) (sn : List Str) (sub : List Value) (ab : Bool) (col : Option Bool) (dd : Option Addr) (m0 m1 m2 m3 m5 : Option Value),
    K.lookup C = some (excClassObj nm q C N bs bm true sn sub ab col dd m0 m1 m2 m3 m5 "ValueError.__new__") ∧ PySem.HandSPX.refsVE bm = true := by
  unfold excX at h
  cases hl : K.lookup C with
  | none => rw [hl] at h; cases h
  | some o =>
    obtain ⟨oc, od, dt, sl⟩ := o
    rw [hl] at h
    cases oc with
    | type c =>
      cases dt with
      | cls cd =>
        obtain ⟨nm, bs, mro, ns, qn, hd, sn, sub, ab, col, del⟩ := cd
        obtain ⟨sl⟩ := sl
        obtain ⟨h1, h⟩ := ba h
        obtain ⟨h2, h⟩ := ba h
        obtain ⟨h3, h⟩ := ba h
        obtain ⟨h4, h5⟩ := ba h
        have e1 := of_decide_eq_true h1
        subst e1
        dsimp only at h2 h3 h4 h5
        match mro, h2 with
        | .ref C' :: bm, h2 =>
          obtain ⟨h6, h7⟩ := ba h2
          have e6 := of_decide_eq_true h6
          subst e6
          match sl, h3 with
          | [k0, k1, k2, k3, some (.builtin n), k5], h3 =>
            have e3 := of_decide_eq_true h3
            subst e3
            cases hd with
            | false => cases h4
            | true =>
              cases del with
              | true => cases h5
              | false => exact ⟨nm, qn, ns, bs, bm, sn, sub, ab, col, od, k0, k1, k2, k3, k5, rfl, h7⟩
      | _ => cases h
    | _ => cases dt <;> cases h
theorem unitB_ok {K : PySem.W.Frag} {a : Addr} (h : unitB K a = true) : ∃ (dd : Option Addr) (n : Nat) (sl : Array (Option Value)), K.lookup a = some ⟨.type "tuple", dd, .seq #[] n, sl⟩ := by
  unfold unitB at h
  cases hl : K.lookup a with
  | none => rw [hl] at h; cases h
  | some o =>
    obtain ⟨oc, od, dt, sl⟩ := o
    rw [hl] at h
    cases oc with
    | type c =>
      cases dt with
      | seq its n =>
        obtain ⟨h1, h2⟩ := ba h
        rw [of_decide_eq_true h1, Array.isEmpty_iff.mp h2]
        exact ⟨od, n, sl, rfl⟩
      | _ => cases h
    | _ => cases dt <;> cases h
theorem strsB_ok : ∀ {zs : List Str} {us : List Value}, strsB zs us = true → Vals (zs.map V.str) us
  | [], [], _ => .nil
  | [], _ :: _, h => by cases h
  | x :: xs, [], h => by cases h
  | x :: xs, u :: us, h => by
    cases u with
    | str y t =>
      obtain ⟨h1, h2⟩ := ba (show (decide (x = y) && strsB xs us) = true from h)
      exact .cons ⟨t, by rw [of_decide_eq_true h1]⟩ (strsB_ok h2)
    | _ => cases h
theorem rep_strs {K : PySem.W.Frag} {B : Hp} : ∀ zs : List Str, RepL K B (zs.map V.str) (zs.map D.str)
  | [] => .nil
  | z :: zs => .cons (.str _) (rep_strs zs)
theorem tupX_ok {K : PySem.W.Frag} {mg : Str → Option Value} {x : Str} {a : Addr} {zs : List Str} (hm : mg x = some (.ref a)) (h : tupX K a zs = true) (hz : zs.length ≤ 1) : TupC K mg x (zs.map D.str) := by
  unfold tupX at h
  cases hl : K.lookup a with
  | none => rw [hl] at h; cases h
  | some o =>
    obtain ⟨oc, od, dt, sl⟩ := o
    rw [hl] at h
    cases oc with
    | type c =>
      cases dt with
      | seq its n =>
        obtain ⟨h1, h⟩ := ba h
        obtain ⟨h2, h3⟩ := ba h
        have e1 := of_decide_eq_true h1
        subst e1
        exact ⟨⟨a, _, its, n, zs.map V.str, hm, hl, rfl, rfl, of_decide_eq_true h2, strsB_ok h3, by rw [List.length_map]; exact hz, fun B => rep_strs zs⟩⟩
      | _ => cases h
    | _ => cases dt <;> cases h
theorem tabE_of {P : Params} : ∀ {es : List DictEntry} {l : List (Str × Int)}, es.map rowD = rowsX P l → TabE P es l
  | [], [], _ => .nil
  | [], _ :: _, h => by cases h
  | _ :: _, [], h => by cases h
  | e :: es, (x, i) :: l, h => by
    have h1 : rowD e :: es.map rowD = some (x, i, PyData.keyHash P x) :: rowsX P l := h
    injection h1 with h2 h3
    unfold rowD at h2
    cases hk : e.key with
    | str y t =>
      cases hv : e.val with
      | int j u =>
        rw [hk, hv] at h2
        have h4 := Option.some.inj h2
        injection h4 with h5 h6
        injection h6 with h7 h8
        exact .cons ⟨t, by rw [hk, h5]⟩ ⟨u, by rw [hv, h7]⟩ h8 (tabE_of h3)
      | _ => rw [hk, hv] at h2; cases h2
    | _ => rw [hk] at h2; cases h2
theorem dicX_ok {K : PySem.W.Frag} {w : World} {mg : Str → Option Value} {x : Str} {a : Addr} {l : List (Str × Int)} (hm : mg x = some (.ref a)) (h : dicX K a = some (rowsX w.params l)) : KTab K w mg x l := by
  unfold dicX at h
  cases hl : K.lookup a with
  | none => rw [hl] at h; cases h
  | some o =>
    obtain ⟨oc, od, dt, sl⟩ := o
    rw [hl] at h
    cases oc with
    | type c =>
      cases od with
      | none =>
        cases dt with
        | dict es n =>
          dsimp only at h
          cases z : decide (c = "dict") && (sl.isEmpty && !(a == sysModules)) with
          | false => rw [z] at h; cases h
          | true =>
            rw [z] at h
            obtain ⟨z1, z2⟩ := ba z
            obtain ⟨z3, z4⟩ := ba z2
            have e1 := of_decide_eq_true z1
            have e2 := Array.isEmpty_iff.mp z3
            subst e1 e2
            exact ktab_mk hm hl (by simpa using z4) (tabE_of (Option.some.inj h))
        | _ => cases h
      | some b => cases dt <;> cases h
    | _ => cases od <;> cases dt <;> cases h

/-! ### facts -/
section
variable {K : PySem.W.Frag} {h : Heap} {mg : Str → Option Value}
theorem glo_n {x : Str} (e : (He.Fa.glo x).ok K = true) : PySem.W.nsIn K mainGlobals x = some (some (.ref (ga K x))) := eqO_ok e
theorem sub_f {c d : Str} {b : Bool} (e : (Fx.sub c d b).ok K = true) : PySem.W.subIn K (.ref (ga K c)) (.ref (ga K d)) = some b := of_decide_eq_true e
theorem subT_f {c : Str} {t : String} {b : Bool} (e : (Fx.subT c t b).ok K = true) : PySem.W.subIn K (.ref (ga K c)) (.type t) = some b := of_decide_eq_true e
structure ExcF (K : PySem.W.Frag) (C : Addr) : Prop where
  er : ErC K C
  xf : XfC K C
  ec : ExcC K C
  eC : PySem.W.subIn K (.ref C) (.type "BaseException") = some true
  hC : PySem.W.hasDictIn K C = true
  tC : PySem.W.typeIn K (.ref C) = some (.type "type")
theorem exc_f {c : Str} (e : (Fx.exc c).ok K = true) : ExcF K (ga K c) := by
  obtain ⟨h0, e⟩ := ba e
  obtain ⟨sa, e⟩ := ba e
  obtain ⟨gt, e⟩ := ba e
  obtain ⟨gg, e⟩ := ba e
  obtain ⟨nW, e⟩ := ba e
  obtain ⟨nP, e⟩ := ba e
  obtain ⟨kC, e⟩ := ba e
  obtain ⟨eC, e⟩ := ba e
  obtain ⟨tC, e⟩ := ba e
  obtain ⟨hC, e⟩ := ba e
  obtain ⟨ca, e⟩ := ba e
  obtain ⟨hn, e⟩ := ba e
  obtain ⟨ht, mo⟩ := ba e
  obtain ⟨nm, q, N, bs, bm, sn, sub, ab, col, dd, m0, m1, m2, m3, m5, xL, hbm⟩ := excX_ok h0
  have ek := ek_mk (mg := fun _ => some (.ref (ga K c))) (x := c) rfl xL hbm (eqO_ok sa) (eqO_ok gt) (eqO_ok gg) (eqO_ok nW) (eqO_ok nP) kC (of_decide_eq_true eC) (of_decide_eq_true tC) hC (eqO_ok ca) (eqO_ok hn) (of_decide_eq_true ht) (of_decide_eq_true mo)
  exact ⟨ek.er, ek.xf, ek.ec, of_decide_eq_true eC, hC, of_decide_eq_true tC⟩
theorem ek_f {c : Str} (hm : mg c = some (.ref (ga K c))) (e : ExcF K (ga K c)) : Ek K mg c (ga K c) := ⟨hm, e.er, e.xf, e.ec⟩
theorem exi_f {c : Str} (e : (Fx.exi c).ok K = true) : PySem.W.findIn K (.ref (ga K c)) "__init__" = some (some (.ref (ma K (ga K c) "__init__"))) ∧ PySem.W.typeIn K (.ref (ma K (ga K c) "__init__")) = some (.type "function") := by
  obtain ⟨h1, h2⟩ := ba e
  exact ⟨eqO_ok h1, of_decide_eq_true h2⟩
theorem exc0_f {c : Str} (e : (Fx.exc0 c).ok K = true) : PySem.W.readsIn K (ga K c) (.type "type") = true ∧ PySem.W.specialIn K (.ref (ga K c)) "__getattribute__" = some (some (.builtin "type.__getattribute__")) ∧
    PySem.W.findCls K (.ref (ga K c)) (.type "type") "__init__" = some (.val (.ref (ma K (ga K c) "__init__"))) := by
  obtain ⟨h1, e⟩ := ba e
  obtain ⟨h2, h3⟩ := ba e
  refine ⟨h1, eqO_ok h2, ?_⟩
  split at h3
  · rename_i f hf
    rw [hf, of_decide_eq_true h3]
  · cases h3
theorem prp_f {c m : Str} (e : (Fx.prp c m).ok K = true) : PySem.W.findIn K (.ref (ga K c)) m = some (some (.ref (ma K (ga K c) m))) ∧ PySem.W.specialIn K (.ref (ma K (ga K c) m)) "__get__" = some (some (.builtin "property.__get__")) ∧
    PySem.W.takesIn K (.ref (ma K (ga K c) m)) = some true ∧ ∃ r, PySem.W.recIn K (ma K (ga K c) m) "property" = some (.ref (prA K (ga K c) m) :: r) := by
  obtain ⟨h1, e⟩ := ba e
  obtain ⟨h2, e⟩ := ba e
  obtain ⟨h3, h4⟩ := ba e
  refine ⟨eqO_ok h1, eqO_ok h2, of_decide_eq_true h3, ?_⟩
  split at h4
  · rename_i f r hf
    exact ⟨r, by rw [hf, ← of_decide_eq_true h4]⟩
  · cases h4
theorem unit_f {a : PySem.W.Frag → Addr} {B : Hp} (e : (Fx.unit a).ok K = true) : Rep K B (.ref (a K)) (.tup []) := by
  obtain ⟨dd, n, sl, l⟩ := unitB_ok e
  exact rep_unit l
theorem tup_f {x : Str} {zs : List Str} (hm : mg x = some (.ref (ga K x))) (e : (Fx.tup x zs).ok K = true) (hz : zs.length ≤ 1) : TupC K mg x (zs.map D.str) := tupX_ok hm e hz
end
theorem funX_of {K : PySem.W.Frag} {x qual : Str} {st : Stmt} {f : Addr} {fd : FuncData} {dvs : List V} {kws : List (Str × V)} (F : FunD K x qual (defArgs st) (defBody st) (defScope st) dvs kws f fd) : FunX K x qual st f fd := by
  obtain ⟨oc, od, dV, kV, doc, pm, an, cdv, ct, osl, e, l, c, _, _⟩ := F.ex
  exact ⟨⟨oc, od, dV, kV, doc, pm, an, cdv, ct, osl, e, l, c⟩⟩

/-! ### what is looked at -/
/-! ### the Hook -/
theorem obL_eq {fa : List He.Fa} {fx : List Fx} {fn : List He5.DefA} {ts : List TabK} (s : PySem.W.SharedT) : obL fa fx fn ts s = (hookL fa fx fn ts).obs s.abs := by
  have e : HandSHeadRun.getT s = s.abs.heap.get? := funext (HandSHeadRun.getT_eq s)
  unfold obL
  rw [e]
  rfl
section
variable {fa : List He.Fa} {fx : List Fx} {fn : List He5.DefA} {ts : List TabK} {w : World} {K : PySem.W.Frag}
theorem sayA (c : obsL fa fx fn ts K = valL fn ts w) (i : Nat) {f : He.Fa} (h : fa[i]? = some f := by rfl) : f.ok K = true := by
  have c1 := (ba (show ((fa.all fun f => f.ok K) && ((fx.all fun f => f.ok K) && fn.all fun d => d.ok K)) = true from congrArg (fun z : AlL => z.1) c)).1
  exact List.all_eq_true.mp c1 f (List.mem_of_getElem? h)
theorem sayX (c : obsL fa fx fn ts K = valL fn ts w) (i : Nat) {f : Fx} (h : fx[i]? = some f := by rfl) : f.ok K = true := by
  have c1 := (ba (ba (show ((fa.all fun f => f.ok K) && ((fx.all fun f => f.ok K) && fn.all fun d => d.ok K)) = true from congrArg (fun z : AlL => z.1) c)).2).1
  exact List.all_eq_true.mp c1 f (List.mem_of_getElem? h)
theorem sayD (c : obsL fa fx fn ts K = valL fn ts w) (i : Nat) {d : He5.DefA} (h : fn[i]? = some d := by rfl) : ∃ fd, FunD K d.name d.qual d.params d.body d.scope (d.dvs K) (d.kws K) (d.at_ K) fd := by
  have c1 := (ba (ba (show ((fa.all fun f => f.ok K) && ((fx.all fun f => f.ok K) && fn.all fun d => d.ok K)) = true from congrArg (fun z : AlL => z.1) c)).2).2
  have e : fn.map (fun d => He5.fnA K (d.at_ K)) = fn.map He5.DefA.val := congrArg (fun z : AlL => z.2.1) c
  have e2 : (fn.map fun d => He5.fnA K (d.at_ K))[i]? = (fn.map He5.DefA.val)[i]? := by rw [e]
  rw [List.getElem?_map, List.getElem?_map, h] at e2
  exact He5.DefA.funD (Option.some.inj e2) (List.all_eq_true.mp c1 d (List.mem_of_getElem? h))
theorem sayT (c : obsL fa fx fn ts K = valL fn ts w) (i : Nat) {t : TabK} (h : ts[i]? = some t := by rfl) : dicX K (ga K t.1) = some (rowsX w.params t.2) := by
  have e : ts.map (fun t => dicX K (ga K t.1)) = ts.map (fun t => some (rowsX w.params t.2)) := congrArg (fun z : AlL => z.2.2) c
  have e2 : (ts.map fun t => dicX K (ga K t.1))[i]? = (ts.map fun t => some (rowsX w.params t.2))[i]? := by rw [e]
  rw [List.getElem?_map, List.getElem?_map, h] at e2
  exact Option.some.inj e2
end
/-- the end over such a head -/
theorem walk_L {l : PySem.W.OpenLaw} {k : Nat} {q : Program} {loose : List Str} {XP : (Str → Option Value) → Heap → Prop} {YP : World → Heap → Prop} {d : DefRec} {x : Str}
    (hn : l.most = some 63) (hdf : d.params.defaults = []) (hr : Room k callerA)
    (F : ∀ (w : World) (mg : Str → Option Value) (fa : Addr) (h : Heap), YP w h → h.Ns mainGlobals mg → mg d.name = some (.ref fa) → ∃ K : PySem.W.Frag, K.In h ∧ ∃ fd : FuncData,
      (∀ (s : Shared) (u : Value), BindsTo s fd ⟨[u], []⟩ [(x, u)]) ∧ ∀ base : Heap, K.In base → base.Ns mainGlobals mg → FnOk l.prog w K mg base (L2.CX l.prog w) k fa fd [x] (spLaw K)) :
    PySem.W.WalkO q loose XP YP l.row.toRowW d [] (fun f vs => PySem.call f vs) := by
  refine _root_.Att.attach_call hn hdf fun w s₀ s₁ mg mb fa o pm cd doc a vs ns G Y ho hd hcd hmg hobj hints hlen hg => ?_
  obtain ⟨K, X, fd, hb, ok⟩ := F w mg fa _ Y G.T.g hmg
  refine law_call X G.T.g G.T.b G.T.builtins G.T.nolimit hg hobj hints (Nat.le_trans hlen (by decide)) hr ok hb (fun H _ hS => ⟨a, ns, rfl, hS, hlen, fun _ => rfl⟩) ?_
  exact fun H e s' hx => law_cx H s₁ e s' hx
end Dn

namespace Dn
open PySem L2
open PySem.Spec PyProof.Rows
open Evl (Ex)

/-! ## 61. try with several clauses, each with a name or without one -/
/-- a clause: the class it asks for, the slot of its name, what its suite does -/
abbrev Clz := Value × Option Nat × (Addr → Value → Option Addr → TS)
def endC (D : Ends) : Option Nat → Ends
  | some i => { nx := fun σ H => D.nx (σ.set i none) H, rt := D.rt, bk := fun σ H => D.bk (σ.set i none) H, ct := fun σ H => D.ct (σ.set i none) H }
  | none => D
def slotC (a : Addr) (σ : L2.St) : Option Nat → L2.St
  | some i => σ.set i (some (.ref a))
  | none => σ
def wCl (K : PySem.W.Frag) (W : WX) (D : Ends) : List Clz → WX
  | [] => W
  | cl :: r => fun cls d σ H => ∃ b, PySem.W.exmOne K cls cl.1 = some b ∧ (b = true → ∀ a, H a = none → cl.2.2 a cls d (endC D cl.2.1) (slotC a σ cl.2.1) H) ∧ (b = false → wCl K W D r cls d σ H)
inductive ClsOk (X : Cx) : List ExceptHandler → List Clz → Prop
  | nil : ClsOk X [] []
  | named {x n : Str} {c : Value} {i : Nat} {ts : Addr → Value → Option Addr → TS} {b0 : Stmt} {su : List Stmt} {np ps : Pos} {hds : List ExceptHandler} {l : List Clz} (hi : X.N[i]? = some n) (hln : X.env.kindOf n = some .local) (hc : Names X x c)
      (hsu : ∀ (a : Addr) (oe : Obj) (cls : Value) (d : Option Addr) (pn : List (Addr × Obj)), Zc cls d oe → (∃ vs, oe.data = .fields vs) → PSs (X.suite a ((a, oe) :: pn)) (b0 :: su) (ts a cls d)) (r : ClsOk X hds l) :
      ClsOk X (.ExceptHandler (some (.Name x np)) (some n) (b0 :: su) ps :: hds) ((c, some i, ts) :: l)
  | plain {x : Str} {c : Value} {ts : Addr → Value → Option Addr → TS} {b0 : Stmt} {su : List Stmt} {np ps : Pos} {hds : List ExceptHandler} {l : List Clz} (hc : Names X x c)
      (hsu : ∀ (a : Addr) (oe : Obj) (cls : Value) (d : Option Addr) (pn : List (Addr × Obj)), Zc cls d oe → (∃ vs, oe.data = .fields vs) → PSs (X.suite a ((a, oe) :: pn)) (b0 :: su) (ts a cls d)) (r : ClsOk X hds l) :
      ClsOk X (.ExceptHandler (some (.Name x np)) none (b0 :: su) ps :: hds) ((c, none, ts) :: l)
/-- an error of the body, on the ground of the frame that looks for its clause -/
structure Ctc (X : Cx) (pins : List (Addr × Obj)) (a : Addr) (σ : L2.St) (H : Hp) (cls : Value) (d : Option Addr) (s : Shared) : Prop where
  ex : ∃ (B : Heap) (sI : Shared), Inv X pins σ H sI ∧ (∀ b o, sI.heap.get? b = some o → b ∉ frs X.stack → B.get? b = some o) ∧ sI.heap.UpToSlots s.heap ∧ HandSPX.FlyingZ B (X.env :: X.outer) a (Zc cls d) s.heap ∧ s.os = sI.os ∧ AllBare s.gens
  na : H a = none
section
variable {X : Cx} {pins : List (Addr × Obj)} {a : Addr} {σ : L2.St} {H : Hp} {cls : Value} {d : Option Addr} {s : Shared} {D : Ends} {W : WX}
/-- the state there keeps the body's word, the error stands in it -/
theorem Ctc.at (t : Ctc X pins a σ H cls d s) (hs : X.stack = X.env :: X.outer) (hf : X.env.frame = some X.env.locals) :
    Inv X pins σ H s ∧ ∃ oe vs, s.heap.get? a = some oe ∧ Zc cls d oe ∧ oe.data = .fields vs ∧ Inv (X.suite a ((a, oe) :: (X.pn ++ pins))) [] σ H s := by
  obtain ⟨⟨B, sI, J, nb, up, fl, os, ag⟩, na⟩ := t
  have J3 : Inv X pins σ H s := by
    have := J.landed (s' := s) nb fl.1 up os ag
    exact this
  obtain ⟨oe, vs, he, hz, hd⟩ := fl.there
  have nfr : a ∉ frs (X.env :: X.outer) := fun hm => by
    obtain ⟨_, o', e', hnf⟩ := fl.2.2.1.mem hm
    rw [he] at e'
    cases e'
    exact hnf _ hd
  have nL : a ≠ X.env.locals := fun z => nfr (List.mem_filterMap.mpr ⟨X.env, List.mem_cons_self, by rw [hf, z]⟩)
  have nF : a ∉ X.fs := fun hm => by
    obtain ⟨e, h1, q⟩ := List.mem_filterMap.mp hm
    exact nfr (List.mem_filterMap.mpr ⟨e, List.mem_cons_of_mem _ h1, q⟩)
  exact ⟨J3, oe, vs, he, hz, hd, J3.suite he hd na nL nF⟩
/-- a step on the ground -/
theorem Ctc.again (t : Ctc X pins a σ H cls d s) {M : Model} {A : Around} {E : Value → Shared → Prop} {Q : Unit → Shared → Prop} (h : ∀ s', Ctc X pins a σ H cls d s' → Q () s') : wpAny M A (setFlight (.ref a) none) Q E s := by
  obtain ⟨⟨B, sI, J, nb, up, fl, os, ag⟩, na⟩ := t
  exact HandSPX.lands_againZ fl fun h4 fl4 up4 => h _ ⟨⟨B, sI, J, nb, up.trans up4, fl4, os, ag⟩, na⟩
/-- the class's name, read there -/
theorem Ctc.test (t : Ctc X pins a σ H cls d s) (hs : X.stack = X.env :: X.outer) (hf : X.env.frame = some X.env.locals) {x : Str} {c : Value} {np : Pos} (hc : Names X x c) {Q : Value → Shared → Prop} {E : Value → Shared → Prop} (q : Q c s) :
    wpAny (model X.prog X.w) (X.A.mark (some (.ref a))) (eval (.Name x np) X.env) Q E s := by
  obtain ⟨_, oe, vs, he, hz, hd, S⟩ := t.at hs hf
  obtain ⟨hg, hdbg, hm | ⟨hm, hv, hnn⟩⟩ := hc
  · exact ld_glob (X := X.suite a ((a, oe) :: (X.pn ++ pins))) S hg hm q hdbg
  · exact ld_blt (X := X.suite a ((a, oe) :: (X.pn ++ pins))) S hg hm hv q hnn hdbg
theorem Ctc.isA (t : Ctc X pins a σ H cls d s) (hs : X.stack = X.env :: X.outer) (hf : X.env.frame = some X.env.locals) {c : Value} {b : Bool} (hb : PySem.W.exmOne X.K cls c = some b) : PySem.W.Looks (model X.prog X.w) s.heap (excMatches (.ref a) c) b := by
  obtain ⟨J, oe, vs, he, hz, hd, S⟩ := t.at hs hf
  exact PySem.W.exm_one (M := model X.prog X.w) J.kIn (fun A Q E s k q => wpAny_typeOf_ref (k _ _ he) (by rw [hz.1]; exact q)) hb
theorem cl_go (hs : X.stack = X.env :: X.outer) (hf : X.env.frame = some X.env.locals) (hN : X.N.Nodup) (ok : X.Ok) (tk : Takes X W) {hds : List ExceptHandler} {l : List Clz} (hk : ClsOk X hds l) :
    ∀ {s : Shared}, Ctc X pins a σ H cls d s → wCl X.K W D l cls d σ H → wpAny (model X.prog X.w) X.A (handleBy (.ref a) X.env hds) (SP X pins D) X.xe s := by
  have fin : ∀ {oe : Obj} {i : Option Nat} {D2 : Ends} {f : Flow} {s6 : Shared}, D2 = D → SP (X.suite a ((a, oe) :: (X.pn ++ pins))) [] D2 f s6 → SP X pins D f s6 := fun {oe i D2 f s6} e h => by
    subst e
    cases f with
    | ret u => obtain ⟨v6, σ6, H6, S6, r6, q6⟩ := h; exact ⟨_, _, _, S6.unsuite ok, r6, q6⟩
    | next => obtain ⟨σ6, H6, S6, q6⟩ := h; exact ⟨_, _, S6.unsuite ok, q6⟩
    | brk => obtain ⟨σ6, H6, S6, q6⟩ := h; exact ⟨_, _, S6.unsuite ok, q6⟩
    | cont => obtain ⟨σ6, H6, S6, q6⟩ := h; exact ⟨_, _, S6.unsuite ok, q6⟩
  induction hk with
  | nil =>
    intro s t w
    refine wpAny_handleBy_nil ?_
    obtain ⟨⟨B, sI, J, nb, up, fl, os, ag⟩, na⟩ := t
    obtain ⟨k1, k2, k3, oe, vs, T, oT, ts', he, hz, hd, h1, hr⟩ := id fl
    have up' : wpAny (model X.prog X.w) X.A (setFlight (.ref a) X.env.frame) (fun _ s4 => wpAny (model X.prog X.w) X.A (throw (.ref a) : Sem Flow) (SP X pins D) X.xe s4) X.xe s := by
      rw [hf]
      exact HandSPX.setFlight_upZ fl fun h4 hh4 up4 => wpAny_throw (tk _ _ ⟨a, B, sI, pins, σ, H, cls, d, rfl, J, nb, up.trans up4, .inr (.inr (by rw [hs]; exact hh4)), na, os, ag, w⟩)
    unfold PySem.passOn
    refine wpAny_bind (wpAny_field he hd h1 ?_)
    rw [if_neg (show ¬ ((Value.ref T == Value.none) = true) from by simp)]
    first | exact wpAny_bind (wpAny_pure (wpAny_bind up')) | exact wpAny_bind up'
  | @named x n c i ts b0 su np ps hds2 l2 hi hln hc hsu r ih =>
    intro s t w
    obtain ⟨b, hb, hyes, hno⟩ := w
    refine wpAny_handleBy_cons (codeAny_handlers_test (t.test hs hf hc ((t.isA hs hf hb).here ?_))) (by intro q; cases q)
    cases b with
    | false => exact ih t (hno rfl)
    | true =>
      refine codeAny_handlers_suite_as (t.again fun s4 t4 => ?_)
      obtain ⟨_, oe, vs, he, hz, hd, S4⟩ := t4.at hs hf
      refine store_ok (X := X.suite a ((a, oe) :: (X.pn ++ pins))) (v := .ref a) S4 hN hi (.inl hln) rfl (fun s5 S5 => ?_) (.inr hln)
      refine wpAny_mono ((hsu a oe cls d (X.pn ++ pins) hz ⟨_, hd⟩).run [] s5 _ H _ S5 (hyes rfl a t.na)) (fun f s6 hsp => ?_) (fun _ _ z => z.elim)
      have gone : ∀ {σ6 : L2.St} {H6 : Hp} {Q : Shared → Prop}, Inv (X.suite a ((a, oe) :: (X.pn ++ pins))) [] σ6 H6 s6 → (∀ s7, Inv X pins (σ6.set i none) H6 s7 → Q s7) →
          wpAny (model X.prog X.w) X.A (do bindName X.env n .none; unbindBehindTheSuite X.env n ps) (fun _ s7 => Q s7) X.xe s6 := fun S6 hq => gone_ok (S6.unsuite ok) hN hi hln hq
      cases f with
      | ret u => obtain ⟨v6, σ6, H6, S6, r6, q6⟩ := hsp; exact gone S6 fun s7 J7 => ⟨_, _, _, J7, r6, q6⟩
      | next => obtain ⟨σ6, H6, S6, q6⟩ := hsp; exact gone S6 fun s7 J7 => ⟨_, _, J7, q6⟩
      | brk => obtain ⟨σ6, H6, S6, q6⟩ := hsp; exact gone S6 fun s7 J7 => ⟨_, _, J7, q6⟩
      | cont => obtain ⟨σ6, H6, S6, q6⟩ := hsp; exact gone S6 fun s7 J7 => ⟨_, _, J7, q6⟩
  | @plain x c ts b0 su np ps hds2 l2 hc hsu r ih =>
    intro s t w
    obtain ⟨b, hb, hyes, hno⟩ := w
    refine wpAny_handleBy_cons (codeAny_handlers_test (t.test hs hf hc ((t.isA hs hf hb).here ?_))) (by intro q; cases q)
    cases b with
    | false => exact ih t (hno rfl)
    | true =>
      refine codeAny_handlers_suite (t.again fun s4 t4 => ?_)
      obtain ⟨_, oe, vs, he, hz, hd, S4⟩ := t4.at hs hf
      exact wpAny_mono ((hsu a oe cls d (X.pn ++ pins) hz ⟨_, hd⟩).run [] _ _ H _ S4 (hyes rfl a t.na)) (fun f s6 hsp => fin (i := none) rfl hsp) (fun _ _ z => z.elim)
end
section
variable {X : Cx} {body : List Stmt} {h0 : ExceptHandler} {hds : List ExceptHandler} {l : List Clz} {pos : Pos} {tb : WX → TS} {W : WX}
theorem ps_try_cl (hs : X.stack = X.env :: X.outer) (hf : X.env.frame = some X.env.locals) (hN : X.N.Nodup) (tk : Takes X W)
    (hb : ∀ (W : WX) (pn : List (Addr × Obj)) (xe : Value → Shared → Prop), Takes (X.tr pn xe) W → PassesOwn (model X.prog X.w) X.A X.env xe → PSs (X.tr pn xe) body (tb W)) (hh : ClsOk X (h0 :: hds) l) :
    PS X (.Try body (h0 :: hds) [] [] pos) (fun D σ H => tb (wCl X.K W D l) D σ H) := by
  refine ⟨fun pins s σ H D I h => ?_⟩
  have ok := I.ok
  have hfr : X.A.frames = some (X.env :: X.outer) := by rw [ok.frames, hs]
  refine wpAny_Try_except (wpAny_mono ((hb (wCl X.K W D l) (X.pn ++ pins) (fun e s1 => wpAny (model X.prog X.w) X.A (noteFrame e X.env) (fun _ s2 => wpAny (model X.prog X.w) X.A (setFlight e none) (fun _ s3 =>
    wpAny (model X.prog X.w) X.A (handleBy e X.env (h0 :: hds)) (SP X pins D) X.xe s3) X.xe s2) X.xe s1) (fun u s' xx => ?_) PassesOwn.looking).run [] s σ H D (I.toTry _) h) (fun f s1 hsp => ?_) fun e s1 he => he)
  · obtain ⟨a, B, sI, pins', σ', H', cls, d, rfl, J', nb, up, sky, na, os, ag, w⟩ := xx
    have sky' : Sky B (X.env :: X.outer) a (Zc cls d) X.env.locals s'.heap := by rw [← hs]; exact sky
    exact Sky.land Zc.steady hfr hf sky' fun h3 fl3 up3 => cl_go hs hf hN ok tk hh ⟨⟨B, sI, J'.ofTry ok, nb, up.trans up3, fl3, os, ag⟩, na⟩ w
  · cases f with
    | ret u => obtain ⟨v, σ', H', J', r, q⟩ := hsp; exact ⟨v, σ', H', J'.ofTry ok, r, q⟩
    | next => obtain ⟨σ', H', J', q⟩ := hsp; exact wpAny_execs_nil ⟨σ', H', J'.ofTry ok, q⟩
    | brk => obtain ⟨σ', H', J', q⟩ := hsp; exact ⟨σ', H', J'.ofTry ok, q⟩
    | cont => obtain ⟨σ', H', J', q⟩ := hsp; exact ⟨σ', H', J'.ofTry ok, q⟩
end
/-! the slots' side -/
/-- a clause of data: which classes it takes (none: not known), the slot of its name, its suite -/
abbrev Clm := (Str → Option Bool) × Option Nat × (Addr → Addr → Exn → M Fl)
def keepR : Option (Ro Fl) → Option (Ro Fl)
  | some (.ok fl e) => some (.ok fl e)
  | _ => none
def SuitsO : Option Nat → (Addr → Addr → Exn → M Fl) → Exn → Sl → Ro Fl → Prop
  | some i => Suits i
  | none => fun h x e r => ∀ a d, keepR (h a d x e) = some r
open Classical in
noncomputable def hdlM : List Clm → Exn → Sl → Option (Ro Fl)
  | [], x, e => some (.ex x e)
  | (c, i, h) :: r, x, e => match c x.cls with
    | some true => if hh : ∃ r, SuitsO i h x e r then some hh.choose else none
    | some false => hdlM r x e
    | none => none
noncomputable def sTryM (body : M Fl) (l : List Clm) : M Fl := fun e => match body e with
  | some (.ex x e') => hdlM l x e'
  | r => r
inductive ClmOk (X : Cx) (ks : List Nat) : List ExceptHandler → List Clm → Prop
  | nil : ClmOk X ks [] []
  | named {x n : Str} {cv : Value} {c : Str → Option Bool} {i : Nat} {h : Addr → Addr → Exn → M Fl} {b0 : Stmt} {su : List Stmt} {np ps : Pos} {hds : List ExceptHandler} {l : List Clm} (hi : X.N[i]? = some n) (hln : X.env.kindOf n = some .local) (hk : i ∉ ks) (hc : Names X x cv)
      (ht : ∀ y b C, c y = some b → X.mg y = some (.ref C) → PySem.W.exmOne X.K (.ref C) cv = some b)
      (hsu : ∀ (a : Addr) (oe : Obj) (C dd : Addr) (y : Exn) (pn : List (Addr × Obj)), X.mg y.cls = some (.ref C) → Zc (.ref C) (some dd) oe → (∃ vs, oe.data = .fields vs) → PSs (X.suite a ((a, oe) :: pn)) (b0 :: su) (tS X.K X.mg (fun _ _ _ _ => False) ks (h a dd y)))
      (r : ClmOk X ks hds l) : ClmOk X ks (.ExceptHandler (some (.Name x np)) (some n) (b0 :: su) ps :: hds) ((c, some i, h) :: l)
  | plain {x : Str} {cv : Value} {c : Str → Option Bool} {h : Addr → Addr → Exn → M Fl} {b0 : Stmt} {su : List Stmt} {np ps : Pos} {hds : List ExceptHandler} {l : List Clm} (hc : Names X x cv)
      (ht : ∀ y b C, c y = some b → X.mg y = some (.ref C) → PySem.W.exmOne X.K (.ref C) cv = some b)
      (hsu : ∀ (a : Addr) (oe : Obj) (C dd : Addr) (y : Exn) (pn : List (Addr × Obj)), X.mg y.cls = some (.ref C) → Zc (.ref C) (some dd) oe → (∃ vs, oe.data = .fields vs) → PSs (X.suite a ((a, oe) :: pn)) (b0 :: su) (tS X.K X.mg (fun _ _ _ _ => False) ks (h a dd y)))
      (r : ClmOk X ks hds l) : ClmOk X ks (.ExceptHandler (some (.Name x np)) none (b0 :: su) ps :: hds) ((c, none, h) :: l)
section
variable {X : Cx} {W : WX} {ks : List Nat}
/-- what a suite of data wishes -/
def tsM (X : Cx) (ks : List Nat) (h : Addr → Addr → Exn → M Fl) : Addr → Value → Option Addr → TS := fun a cls d D σ H => ∃ (C dd : Addr) (y : Exn), cls = .ref C ∧ d = some dd ∧ X.mg y.cls = some (.ref C) ∧ tS X.K X.mg (fun _ _ _ _ => False) ks (h a dd y) D σ H
/-- the clauses of a row, as the slots' side has them: i a slot's number, or none -/
inductive ClRel (X : Cx) (ks : List Nat) : List Clm → List Clz → Prop
  | nil : ClRel X ks [] []
  | cons {c : Str → Option Bool} {i : Option Nat} {h : Addr → Addr → Exn → M Fl} {cv : Value} {l : List Clm} {l' : List Clz} (ht : ∀ y b C, c y = some b → X.mg y = some (.ref C) → PySem.W.exmOne X.K (.ref C) cv = some b)
      (hi : ∀ j, i = some j → j ∉ ks) (r : ClRel X ks l l') : ClRel X ks ((c, i, h) :: l) ((cv, i, tsM X ks h) :: l')
theorem ClmOk.rel {hds : List ExceptHandler} {l : List Clm} (h : ClmOk X ks hds l) : ∃ l', ClRel X ks l l' ∧ ClsOk X hds l' := by
  induction h with
  | nil => exact ⟨[], .nil, .nil⟩
  | named hi hln hk hc ht hsu r ih =>
    obtain ⟨l', r1, r2⟩ := ih
    refine ⟨_, .cons ht (fun j e => by cases e; exact hk) r1, .named hi hln hc (fun a oe cls d pn hz hv => ⟨fun pins s σ H D I q => ?_⟩) r2⟩
    obtain ⟨C, dd, y, rfl, rfl, hC, q⟩ := q
    exact (hsu a oe C dd y pn hC hz hv).run pins s σ H D I q
  | plain hc ht hsu r ih =>
    obtain ⟨l', r1, r2⟩ := ih
    refine ⟨_, .cons ht (fun j e => by cases e) r1, .plain hc (fun a oe cls d pn hz hv => ⟨fun pins s σ H D I q => ?_⟩) r2⟩
    obtain ⟨C, dd, y, rfl, rfl, hC, q⟩ := q
    exact (hsu a oe C dd y pn hC hz hv).run pins s σ H D I q
theorem hdl_go {l : List Clm} {l' : List Clz} (hr : ClRel X ks l l') {D : Ends} {B H : Hp} {S : Nat → Addr → Prop} {σ : L2.St} :
    ∀ {y : Exn} {e' : Sl}, Post (hdlM l y e') (Nd X.K D ks B H S σ) (ExS X.K X.mg W ks B H S σ) → ExS X.K X.mg (wCl X.K W D l') ks B H S σ y e' := by
  induction hr with
  | nil => intro y e' q; exact q
  | @cons c i h cv l l' ht hi r ih =>
    intro y e' q C d fs σ' B' H' S' hC r' hd hx hn k' f'
    unfold hdlM at q
    cases hcy : c y.cls with
    | none => rw [hcy] at q; exact q.elim
    | some b =>
      rw [hcy] at q
      cases b with
      | false => exact ⟨false, ht _ _ _ hcy hC, fun z => (nomatch z), fun _ => ih q C d fs σ' B' H' S' hC r' hd hx hn k' f'⟩
      | true =>
        refine ⟨true, ht _ _ _ hcy hC, fun _ a ha => ⟨C, d, y, rfl, rfl, hC, ?_⟩, fun z => (nomatch z)⟩
        dsimp only at q
        by_cases hh : ∃ r, SuitsO i h y e' r
        · rw [dif_pos hh] at q
          have sp := hh.choose_spec
          generalize hh.choose = rr at q sp
          have hB : Ex B' (upd B' d (.xd fs)) := fun b u z => by
            by_cases hb : b = d
            · subst hb; rw [upd_same]; exact (r'.ex _ _ z).symm.trans hd |>.symm ▸ rfl
            · rw [upd_ne hb]; exact z
          have hH : Ex (upd B' d (.xd fs)) H' := fun b u z => by
            by_cases hb : b = d
            · subst hb; rw [upd_same] at z; cases z; exact hd
            · rw [upd_ne hb] at z; exact r'.ex _ _ z
          have r1 : Rp X.K (upd B' d (.xd fs)) H' σ' e' (fun j a => S' j a ∧ a ≠ d) := (r'.less hd).bgrow hB hH fun j b z => by
            rw [upd_ne z.2]; exact (r'.own j b z.1).1
          have vl : Vl X.K (upd B' d (.xd fs)) H' σ' e' (fun j a => S' j a ∧ a ≠ d) (.ref a) (.exn a d y) noS :=
            ⟨r1, ⟨rfl, ⟨fs, upd_same, hx.mono hB⟩, fun _ z => z⟩, own_no, fun _ z => z.elim⟩
          have fB : Fr B H (tot S) (upd B' d (.xd fs)) H' (tot (fun j a => S' j a ∧ a ≠ d)) := by
            refine ⟨f'.b.trans hB, f'.k, fun b z => f'.n b ?_, fun b u z => ?_, f'.a⟩
            · obtain ⟨j, z⟩ := z
              exact ⟨j, z.1⟩
            · by_cases hb : b = d
              · subst hb; exact .inr (.inr hn)
              · rw [upd_ne hb] at z; exact f'.c _ _ z
          cases i with
          | some i =>
            have hk := hi i rfl
            have sp2 : wipeR i (h a d y (e'.set i (some (.exn a d y)))) = some rr := sp a d
            have f2 : Fr B H (tot S) (upd B' d (.xd fs)) H' (tot (fun j => if j = i then (if i < e'.length then noS else noS) else fun a => S' j a ∧ a ≠ d)) := fB.imp (fun _ z => z) fun b z => by
              rcases tot_set z with z | ⟨j, z⟩
              · exact z.elim
              · exact ⟨j, z⟩
            have k2 : Kp ks σ (σ'.set i (some (.ref a))) := k'.trans (Kp.set hk)
            refine ⟨_, _, _, vl.set i, ?_⟩
            change Post (h a d y (e'.set i (some (.exn a d y)))) _ _
            cases hq : h a d y (e'.set i (some (.exn a d y))) with
            | none => rw [hq] at sp2; cases sp2
            | some ro2 =>
              rw [hq] at sp2
              cases ro2 with
              | ex _ _ => cases sp2
              | ok fl e3 =>
                cases sp2
                have q' : Nd X.K D ks B H S σ fl (e3.set i none) := q
                cases fl with
                | next => exact fun σ4 B4 H4 S4 r4 k4 f4 => q' (σ4.set i none) B4 H4 _ (r4.gone i) ((k2.trans k4).trans (Kp.set hk)) ((f2.trans f4).imp (fun _ z => z) fun _ z => tot_forget z)
                | brk => exact fun σ4 B4 H4 S4 r4 k4 f4 => q' (σ4.set i none) B4 H4 _ (r4.gone i) ((k2.trans k4).trans (Kp.set hk)) ((f2.trans f4).imp (fun _ z => z) fun _ z => tot_forget z)
                | cnt => exact fun σ4 B4 H4 S4 r4 k4 f4 => q' (σ4.set i none) B4 H4 _ (r4.gone i) ((k2.trans k4).trans (Kp.set hk)) ((f2.trans f4).imp (fun _ z => z) fun _ z => tot_forget z)
                | ret o => exact fun v σ4 B4 H4 S4 T vl4 k4 f4 => q' v (σ4.set i none) B4 H4 _ T (vl4.gone i) ((k2.trans k4).trans (Kp.set hk)) ((f2.trans f4).imp (fun _ z => z) fun _ z => z.elim .inl fun z => .inr (tot_forget z))
          | none =>
            have sp2 : keepR (h a d y e') = some rr := sp a d
            refine ⟨_, e', _, r1, ?_⟩
            change Post (h a d y e') _ _
            cases hq : h a d y e' with
            | none => rw [hq] at sp2; cases sp2
            | some ro2 =>
              rw [hq] at sp2
              cases ro2 with
              | ex _ _ => cases sp2
              | ok fl e3 =>
                cases sp2
                have q' : Nd X.K D ks B H S σ fl e3 := q
                cases fl with
                | next => exact fun σ4 B4 H4 S4 r4 k4 f4 => q' σ4 B4 H4 _ r4 (k'.trans k4) (fB.trans f4)
                | brk => exact fun σ4 B4 H4 S4 r4 k4 f4 => q' σ4 B4 H4 _ r4 (k'.trans k4) (fB.trans f4)
                | cnt => exact fun σ4 B4 H4 S4 r4 k4 f4 => q' σ4 B4 H4 _ r4 (k'.trans k4) (fB.trans f4)
                | ret o => exact fun v σ4 B4 H4 S4 T vl4 k4 f4 => q' v σ4 B4 H4 _ T vl4 (k'.trans k4) (fB.trans f4)
        · rw [dif_neg hh] at q; exact q.elim
theorem s_tryM {body : List Stmt} {h0 : ExceptHandler} {hds : List ExceptHandler} {l : List Clm} {pos : Pos} {gb : M Fl} (hN : X.N.Nodup) (tk : Takes X W)
    (hb : ∀ (W : WX) (pn : List (Addr × Obj)) (xe : Value → Shared → Prop), Takes (X.tr pn xe) W → PassesOwn (model X.prog X.w) X.A X.env xe → PSs (X.tr pn xe) body (tS X.K X.mg W ks gb)) (hh : ClmOk X ks (h0 :: hds) l)
    (hs : X.stack = X.env :: X.outer := by rfl) (hf : X.env.frame = some X.env.locals := by rfl) : PS X (.Try body (h0 :: hds) [] [] pos) (tS X.K X.mg W ks (sTryM gb l)) := by
  obtain ⟨l', hr, hc⟩ := hh.rel
  refine ps_imp (ps_try_cl (W := W) (tb := fun W => tS X.K X.mg W ks gb) hs hf hN tk hb hc) fun D σ H q => ?_
  obtain ⟨B, e, S, r, q⟩ := q
  refine ⟨B, e, S, r, ?_⟩
  change Post (sTryM gb l e) (Nd X.K D ks B H S σ) (ExS X.K X.mg W ks B H S σ) at q
  change Post (gb e) (Nd X.K D ks B H S σ) (ExS X.K X.mg _ ks B H S σ)
  unfold sTryM at q
  cases hg : gb e with
  | none => rw [hg] at q; exact q.elim
  | some ro =>
    rw [hg] at q
    cases ro with
    | ok fl e' => exact q
    | ex y e' => exact hdl_go hr q
end
end Dn

namespace Dn
open PySem L2

/-! ## 62. Several clauses: by tables, evaluated -/
section
variable {X : Cx} {ks : List Nat} {i : Nat} {x n : Str} {su : List Stmt} {b0 : Stmt} {np ps : Pos} {h : Addr → Addr → Exn → M Fl} {t : List (Str × Bool)} {hds : List ExceptHandler} {l : List Clm}
theorem cm_named (hi : X.N[i]? = some n) (E : Ec X.K X.mg t x)
    (hsu : ∀ (a : Addr) (oe : Obj) (C dd : Addr) (y : Exn) (pn : List (Addr × Obj)), X.mg y.cls = some (.ref C) → Zc (.ref C) (some dd) oe → (∃ vs, oe.data = .fields vs) → PSs (X.suite a ((a, oe) :: pn)) (b0 :: su) (tS X.K X.mg (fun _ _ _ _ => False) ks (h a dd y)))
    (r : ClmOk X ks hds l) (hk : i ∉ ks := by decide) (hln : X.env.kindOf n = some .local := by rfl) (hg : Gl X x := by rfl) (hdb : (x == ("__debug__" : Str)) = false := by decide) :
    ClmOk X ks (.ExceptHandler (some (.Name x np)) (some n) (b0 :: su) ps :: hds) ((isaL t, some i, h) :: l) := by
  obtain ⟨C, hm, hx⟩ := E.ex
  exact .named hi hln hk ⟨hg, hdb, .inl hm⟩ (fun y b C h => hx y b h C) hsu r
theorem cm_plain (E : Ec X.K X.mg t x)
    (hsu : ∀ (a : Addr) (oe : Obj) (C dd : Addr) (y : Exn) (pn : List (Addr × Obj)), X.mg y.cls = some (.ref C) → Zc (.ref C) (some dd) oe → (∃ vs, oe.data = .fields vs) → PSs (X.suite a ((a, oe) :: pn)) (b0 :: su) (tS X.K X.mg (fun _ _ _ _ => False) ks (h a dd y)))
    (r : ClmOk X ks hds l) (hg : Gl X x := by rfl) (hdb : (x == ("__debug__" : Str)) = false := by decide) :
    ClmOk X ks (.ExceptHandler (some (.Name x np)) none (b0 :: su) ps :: hds) ((isaL t, none, h) :: l) := by
  obtain ⟨C, hm, hx⟩ := E.ex
  exact .plain ⟨hg, hdb, .inl hm⟩ (fun y b C h => hx y b h C) hsu r
end
def HandM [Q : PostE Fl] [X : PostE Exn] : List Clm → Exn → Sl → Prop
  | [], x, e => X.run x e
  | (c, i, h) :: r, x, e => match c x.cls with
    | some true => ∃ r, SuitsO i h x e r ∧ @EvC _ (some r) Q X
    | some false => HandM r x e
    | none => False
theorem SuitsO.one {i : Option Nat} {h : Addr → Addr → Exn → M Fl} {x : Exn} {e : Sl} {r r' : Ro Fl} (a : SuitsO i h x e r) (b : SuitsO i h x e r') : r = r' := by
  cases i with
  | some i => exact Suits.one a b
  | none =>
    have := ((show keepR (h 0 0 x e) = some r from a 0 0).symm.trans (b 0 0))
    injection this
theorem Ev_hdlM {Q : PostE Fl} {X : PostE Exn} {x : Exn} {e : Sl} : ∀ l : List Clm, @EvC _ (hdlM l x e) Q X = @HandM Q X l x e
  | [] => rfl
  | (c, i, h) :: r => by
    unfold hdlM HandM
    cases c x.cls with
    | none => rfl
    | some t =>
      cases t with
      | false => exact Ev_hdlM r
      | true =>
        dsimp only
        refine propext ⟨fun z => ?_, fun ⟨r, s, z⟩ => ?_⟩
        · by_cases hh : ∃ r, SuitsO i h x e r
          · rw [dif_pos hh] at z
            exact ⟨_, hh.choose_spec, z⟩
          · rw [dif_neg hh] at z; exact z.elim
        · have hh : ∃ r, SuitsO i h x e r := ⟨r, s⟩
          rw [dif_pos hh, hh.choose_spec.one s]
          exact z
theorem Ev_sTryM {l : List Clm} {b : M Fl} {e : Sl} {Q : PostE Fl} {X : PostE Exn} : @EvC _ (sTryM b l e) Q X = @EvC _ (b e) Q ⟨fun x e' => @HandM Q X l x e'⟩ := by
  unfold sTryM
  cases b e with
  | none => rfl
  | some r =>
    cases r with
    | ok a e' => rfl
    | ex x e' => exact Ev_hdlM l
def HandU (h : Addr → Addr → Exn → M Fl) [Q : PostE Fl] [X : PostE Exn] (x : Exn) (e : Sl) : Prop := ∃ r, SuitsO none h x e r ∧ @EvC _ (some r) Q X
section
variable {c : Str → Option Bool} {i : Nat} {h : Addr → Addr → Exn → M Fl} {x : Str} {fs : List (Str × D)} {e : Sl} {Q : PostE Fl} {X : PostE Exn} {l : List Clm} {oi : Option Nat}
theorem HandM_n : @HandM Q X [] ⟨x, fs⟩ e = X.run ⟨x, fs⟩ e := rfl
theorem HandM_t (hc : c x = some true) : @HandM Q X ((c, some i, h) :: l) ⟨x, fs⟩ e = @HandT i h Q X ⟨x, fs⟩ e := by
  unfold HandM HandT
  dsimp only
  rw [hc]
  rfl
theorem HandM_u (hc : c x = some true) : @HandM Q X ((c, none, h) :: l) ⟨x, fs⟩ e = @HandU h Q X ⟨x, fs⟩ e := by
  unfold HandM HandU
  dsimp only
  rw [hc]
theorem HandM_f (hc : c x = some false) : @HandM Q X ((c, oi, h) :: l) ⟨x, fs⟩ e = @HandM Q X l ⟨x, fs⟩ e := by
  conv => lhs; unfold HandM
  dsimp only
  rw [hc]
end
theorem HandU.of {h : Addr → Addr → Exn → M Fl} {x : Exn} {e : Sl} {Q : PostE Fl} {X : PostE Exn} (fl : Fl) (E : Sl)
    (hs : ∀ a d, Ev (h a d x e) (fun fl' e' => fl' = fl ∧ e' = E) (fun _ _ => False)) (q : Q.run fl E) : @HandU h Q X x e := by
  refine ⟨.ok fl E, fun a d => ?_, q⟩
  obtain ⟨fl', e', h1, rfl, rfl⟩ := (hs a d).get
  rw [h1]; rfl
end Dn

namespace Dn
open PySem L2
open PySem.Spec PyProof.Rows
open Evl (Ex)

/-! ## 63. d.setdefault(k, v), d a dict of one's own whose keys are pairs -/
section
variable {X : Cx} {pins : List (Addr × Obj)} {σ : L2.St} {H : Hp} {s : Shared} {a b : Addr} {r : Value} {d : V} {k : List L2.Key} {A : Around} {E : Value → Shared → Prop} {kvs : List (List L2.Key × V)} {Q : Value → Shared → Prop}
theorem d_setdT (hu : A.units + 1 < cLine) (I : Inv X pins σ H s) (e : H a = some (.dT kvs)) (eb : H b = some (.tup (k.map kV))) (rd : RelV d r) (hl : kvs.length < sizeLine)
    (h1 : ∀ v, valV kvs k = some v → ∀ (w' : Value) (s' : Shared), Inv X pins σ H s' → RelV v w' → Q w' s')
    (h2 : valV kvs k = none → ∀ (w' : Value) (s' : Shared), Inv X pins σ (L2.upd H a (.dT (putK kvs k d))) s' → RelV d w' → Q w' s') : wpAny (model X.prog X.w) A (call (.builtin "dict.setdefault") [.ref a, .ref b, r]) Q E s := by
  obtain ⟨z, hd, xs, rel, dd⟩ := dt_of I.hok e
  have hz : xs.length ≤ sizeLine := by rw [← Paired.length rel]; exact z
  refine call_setdefault_heap (hsz := hz) (tupleKind_room_in1 hu) (key_of I.hok eb) hd dd (fun p hp => ?_) fun hn h' dd' hs => ?_
  · have q := rel.val k
    rw [hp] at q
    cases q0 : valV kvs k with
    | none => rw [q0] at q; exact (show False from q).elim
    | some v0 => rw [q0] at q; exact h1 v0 q0 _ _ (I.tok _) q
  · have q := rel.val k
    rw [hn] at q
    cases q0 : valV kvs k with
    | some v0 => rw [q0] at q; exact (show False from q).elim
    | none =>
      have hl2 : (putK kvs k d).length ≤ sizeLine := by have := length_putK kvs k d; omega
      obtain ⟨q1, es, ep, hq, g2, g3, g4, _, g5⟩ := dd'
      refine h2 q0 _ _ (d_write I (by rw [e]; exact True.intro) hs ⟨q1, hq⟩ ⟨hl2, hd, _, (rel.put k eb rd).keeps fun c ys ec => ?_, q1, es, ep, hq, g2, g3, g4, g5⟩) rd
      rw [upd_ne (ne_of ec e (fun z => nomatch z))]
      exact ec
end
def tSetdT (td ty tx : TE) : TE := fun σ H Q => td σ H fun x H1 => ∃ a, x = .ref a ∧ IsD H1 a ∧ ty σ H1 fun y H2 => tx σ H2 fun z H3 => ∃ (kvs : List (List L2.Key × V)) (k : List L2.Key) (b : Addr), H3 a = some (.dT kvs) ∧ y = .ref b ∧ H3 b = some (.tup (k.map kV)) ∧ kvs.length < sizeLine ∧
  (∀ v, valV kvs k = some v → Q v H3) ∧ (valV kvs k = none → Q z (L2.upd H3 a (.dT (putK kvs k z))))
section
variable {X : Cx} {o e f : Expr} {td ty tx : TE} {apos cpos : Pos}
theorem pe_setdT (hu : X.A.units + 1 < cLine) (ho : PE X o td) (he : PE X e ty) (hf : PE X f tx) (m : M2 X o "setdefault" apos e f cpos) : PE X (.Call (.Attribute o "setdefault" apos) [e, f] [] cpos) (tSetdT td ty tx) := by
  refine ⟨fun pins s σ H Q I h => wpAny_Call_method m.base m.few m.line PySem.F.plainAttrs_dict PySem.F.slot_dict_setdefault PySem.F.type_dict_setdefault (thn (ho.run pins s σ H _ I h) fun u s1 ⟨x, H1, I1, rx, a, ex, dd, q1⟩ => ?_)⟩
  subst ex
  obtain rfl : u = Value.ref a := rx
  obtain ⟨t1, t2, _⟩ := isD_at I1 dd
  refine ⟨t1, t2, ?_⟩
  rw [m.trees]
  refine Calls.callWith_builtin rfl (Calls.evalArgs_plain (Calls.spliced_cons (thn (he.run pins s1 σ H1 _ I1 q1) fun iv s2 ⟨y, H2, I2, ry, q2⟩ => Calls.spliced_cons (thn (hf.run pins s2 σ H2 _ I2 q2) fun fv s3 ⟨z, H3, I3, rz, kvs, k, b, ea, ey, eb, hl, q3, q4⟩ => Calls.spliced_nil ?_))))
  subst ey
  cases (show iv = Value.ref b from ry)
  exact d_setdT hu I3 ea eb rz hl (fun v hv w' s4 I4 rw' => ⟨v, _, I4, rw', q3 v hv⟩) fun hn w' s4 I4 rw' => ⟨z, _, I4, rw', q4 hn⟩
end
def eSetDT (i : Nat) (f g : M O) : M O := fun e => match e[i]? with
  | some (some (.tr (.dtt _ _))) => (f.bind fun ko => g.bind fun o e2 => match e2[i]? with
    | some (some (.tr (.dtt ks xs))) => (match keyT ko.d with
      | some k => if ks.length < sizeLine then (match getKT ks xs k with
        | some d => some (.ok (.fr d) e2)
        | none => some (.ok (.fr o.d) (e2.set i (some (.tr (.dtt (putKTs ks k) (putXTs ks xs k o.d))))))) else none
      | none => none)
    | _ => none) e
  | _ => none
section
variable {X : Cx} {W : WX} {e1 e2 : Expr} {apos cpos p : Pos} {f g : M O} {x : Str} {i : Nat}
theorem d_setDT (hu : X.A.units + 64 < cLine) (hv : PE X (.Name x p) (tVar i)) (hk : PE X e1 (tE X.K X.mg W f)) (he : PE X e2 (tE X.K X.mg W g)) (m : M2 X (.Name x p) "setdefault" apos e1 e2 cpos) :
    PE X (.Call (.Attribute (.Name x p) "setdefault" apos) [e1, e2] [] cpos) (tE X.K X.mg W (eSetDT i f g)) := pe_imp (pe_setdT (by omega) hv hk he m) fun σ H Q h => by
  obtain ⟨B, e, S, r, h⟩ := h
  unfold eSetDT at h
  cases q0 : e[i]? with
  | none => rw [q0] at h; exact h.elim
  | some u0 =>
    rw [q0] at h
    cases u0 with
    | none => exact h.elim
    | some o0 =>
      cases o0 with
      | tr t0 =>
        cases t0 with
        | dtt ks0 xs0 =>
          obtain ⟨p0, kv0, hv0, hS0, hp0, _⟩ := dtt_at r q0
          refine ⟨_, hv0, p0, rfl, .inr ⟨kv0, .inl hp0⟩, B, e, S, r, (show Post (M.bind f _ e) _ _ from h).bind.imp (fun ko e3 h v1 B1 H1 S1 T vl f1 => ?_) fun _ _ z => z⟩
          obtain ⟨B2, vl2, f2⟩ := vl.freeze
          have f3 := fz_fr f1 f2
          refine ⟨B2, e3, S1, vl2.rp, (show Post (M.bind g _ e3) _ _ from h).bind.imp (fun o e4 h v2 B3 H3 S3 T3 vl3 f4 => ?_) fun x e4 z => ?_⟩
          · obtain ⟨B4, vl4, f5⟩ := vl3.freeze
            have f6 := fz_fr f4 f5
            cases q1 : e4[i]? with
            | none => rw [q1] at h; exact h.elim
            | some u1 =>
              cases u1 with
              | none => rw [q1] at h; exact h.elim
              | some o2 =>
                rw [q1] at h
                cases o2 with
                | tr t2 =>
                  cases t2 with
                  | dtt ks1 xs1 =>
                    dsimp only at h
                    cases hkk : keyT ko.d with
                    | none => rw [hkk] at h; exact h.elim
                    | some kk =>
                      rw [hkk] at h
                      dsimp only at h
                      by_cases hl : ks1.length < sizeLine
                      · rw [if_pos hl] at h
                        obtain ⟨p1, kv, hv1, hS, hp, ek, hr, hSi⟩ := dtt_at vl4.rp q1
                        rw [hv0] at hv1
                        cases hv1
                        obtain ⟨b, eb, hb⟩ := keyT_rep (vl2.ro.1.mono f6.b) vl4.rp.ex hkk
                        subst eb ek
                        have hl' : kv.length < sizeLine := by rw [List.length_map] at hl; exact hl
                        obtain ⟨g1, g2⟩ := getKT_rep (k := kk) rfl hr
                        have ff := f3.trans f6
                        refine ⟨kv, kk, b, hp, rfl, hb, hl', fun w hw => ?_, fun hn => ?_⟩
                        · cases hg : getKT (kv.map (·.1)) xs1 kk with
                          | none => rw [g2 hg] at hw; cases hw
                          | some d =>
                            rw [hg] at h
                            obtain ⟨w2, hw2, hd⟩ := g1 d hg
                            rw [hw2] at hw
                            cases hw
                            exact (show ∀ v B' H' S' T, Vl X.K B' H' σ e4 S' v (.fr d) T → Fr B H (tot S) B' H' (fun a => T a ∨ tot S' a) → Q v H' from h) _ B4 H3 S3 noS (.fr vl4.rp hd) (ff.imp (fun _ z => z) fun a z => z.elim (fun z => z.elim) id)
                        · cases hg : getKT (kv.map (·.1)) xs1 kk with
                          | some d =>
                            obtain ⟨w2, hw2, _⟩ := g1 d hg
                            rw [hw2] at hn
                            cases hn
                          | none =>
                            rw [hg] at h
                            obtain ⟨r5, f7⟩ := vl4.rp.mutT (o' := .tr (.dtt (putKTs (kv.map (·.1)) kk) (putXTs (kv.map (·.1)) xs1 kk o.d))) q1 hS hp (u' := .dT (putK kv kk v2)) (fun w hw => by
                              rw [hv0] at hw
                              cases hw
                              exact .dtt upd_same (putKT_ks kk v2 kv) (putKT_xs kk vl4.ro.1 hr) hSi)
                            exact (show ∀ v B' H' S' T, Vl X.K B' H' σ (e4.set i (some (.tr (.dtt (putKTs (kv.map (·.1)) kk) (putXTs (kv.map (·.1)) xs1 kk o.d))))) S' v (.fr o.d) T → Fr B H (tot S) B' H' (fun a => T a ∨ tot S' a) → Q v H' from h) _ B4 _ S3 noS (.fr r5 vl4.ro.1) ((ff.trans f7).imp (fun _ z => z) fun a z => z.elim (fun z => z.elim) id)
                      · rw [if_neg hl] at h; exact h.elim
                  | _ => exact h.elim
                | _ => exact h.elim
          · exact ExE.step z f3
        | _ => exact h.elim
      | _ => exact h.elim
end
/-! evaluated -/
section
variable {e : Sl}
def setDR (i : Nat) (e : Sl) (o ko : O) : Option O → Option (Ro O)
  | some (.tr (.dtt ks xs)) => match keyT ko.d with
    | some k => if ks.length < sizeLine then (match getKT ks xs k with
      | some d => some (.ok (.fr d) e)
      | none => some (.ok (.fr o.d) (e.set i (some (.tr (.dtt (putKTs ks k) (putXTs ks xs k o.d))))))) else none
    | none => none
  | _ => none
theorem setDR_s {i : Nat} {o ko : O} {ks : List (List L2.Key)} {xs : List D} {k : List L2.Key} {d : D} (hk : keyT ko.d = some k) (hl : ks.length < sizeLine) (hg : getKT ks xs k = some d) : setDR i e o ko (some (.tr (.dtt ks xs))) = some (.ok (.fr d) e) := by
  unfold setDR
  dsimp only
  rw [hk]
  dsimp only
  rw [if_pos hl, hg]
theorem setDR_n {i : Nat} {o ko : O} {ks : List (List L2.Key)} {xs : List D} {k : List L2.Key} (hk : keyT ko.d = some k) (hl : ks.length < sizeLine) (hg : getKT ks xs k = none) :
    setDR i e o ko (some (.tr (.dtt ks xs))) = some (.ok (.fr o.d) (e.set i (some (.tr (.dtt (putKTs ks k) (putXTs ks xs k o.d)))))) := by
  unfold setDR
  dsimp only
  rw [hk]
  dsimp only
  rw [if_pos hl, hg]
theorem eSetDT_a (i : Nat) (f g : M O) : eSetDT i f g e = (match getO e i with
    | some (.tr (.dtt _ _)) => @thn' _ _ (f e) ⟨fun ko e1 => @thn' _ _ (g e1) ⟨fun o e2 => setDR i e2 o ko (getO e2 i)⟩⟩
    | _ => none) := by
  unfold eSetDT
  rw [bind_a]
  have k : ∀ (e2 : Sl) (o ko : O), (match e2[i]? with
    | some (some (.tr (.dtt ks xs))) => (match keyT ko.d with
      | some k => if ks.length < sizeLine then (match getKT ks xs k with
        | some d => some (Ro.ok (.fr d) e2)
        | none => some (.ok (.fr o.d) (e2.set i (some (.tr (.dtt (putKTs ks k) (putXTs ks xs k o.d))))))) else none
      | none => none)
    | _ => none) = setDR i e2 o ko (getO e2 i) := fun e2 o ko => by
    unfold getO
    cases e2[i]? with
    | none => rfl
    | some u => cases u with
      | none => rfl
      | some o1 => cases o1 with
        | tr t => cases t <;> rfl
        | _ => rfl
  have k2 : @thn' O O (f e) ⟨fun ko => g.bind fun o e2 => match e2[i]? with
      | some (some (.tr (.dtt ks xs))) => (match keyT ko.d with
        | some k => if ks.length < sizeLine then (match getKT ks xs k with
          | some d => some (Ro.ok (.fr d) e2)
          | none => some (.ok (.fr o.d) (e2.set i (some (.tr (.dtt (putKTs ks k) (putXTs ks xs k o.d))))))) else none
        | none => none)
      | _ => none⟩ = @thn' _ _ (f e) ⟨fun ko e1 => @thn' _ _ (g e1) ⟨fun o e2 => setDR i e2 o ko (getO e2 i)⟩⟩ := thn_congr fun ko e1 => by
    rw [bind_a]
    exact thn_congr fun o e2 => k e2 o ko
  rw [k2]
  unfold getO
  cases e[i]? with
  | none => rfl
  | some u => cases u with
    | none => rfl
    | some o => cases o with
      | tr t => cases t <;> rfl
      | _ => rfl
end
end Dn

namespace Dn
open PySem L2
open PySem.Spec PyProof.Rows
open Evl (Ex)

/-! ## 64. A list taken out of a tuple that was just made: f(..)[k] -/
def eIxT (k : Nat) (f : M O) : M O := f.bind fun o => match o with
  | .tr (.tup ts) => (match ts[k]? with
    | some (.lst xs) => M.pure (.lst xs)
    | _ => fun _ => none)
  | _ => fun _ => none
section
variable {X : Cx} {W : WX} {a : Expr} {pos : Pos} {f : M O}
theorem d_ixT {k : Nat} {k0 : Nat} {p0 : Pos} (h : PE X a (tE X.K X.mg W f)) (hp : PlainIx (.Constant (.int (k : Int)) k0 p0) := by intro _ _; rfl) : PE X (.Subscript a (.Constant (.int (k : Int)) k0 p0) pos) (tE X.K X.mg W (eIxT k f)) :=
  pe_imp (pe_ix (r := rIx X.K) ix_seq h pe_int hp) fun σ H Q h => by
    obtain ⟨B, e, S, r, h⟩ := h
    refine ⟨B, e, S, r, (show Post (M.bind f _ e) _ _ from h).bind.imp (fun o e1 h v B1 H1 S1 T vl f1 => ?_) fun _ _ z => z⟩
    cases o with
    | tr t =>
      cases t with
      | tup ts =>
        dsimp only at h
        cases q : ts[k]? with
        | none => rw [q] at h; exact h.elim
        | some t1 =>
          rw [q] at h
          cases t1 with
          | lst xs =>
            cases (show RepT X.K B1 H1 v (.tup ts) T from vl.ro) with
            | tup c d =>
              obtain ⟨w, U, w1, w2, w3⟩ := RepTs.get d q
              refine .inr (.inl ⟨_, _, _, w, rfl, rfl, Evl.ex_t vl.rp.ex c.sq, by rw [atI_cn]; exact w1, ?_⟩)
              cases w2 with
              | lst k1 k2 k3 =>
                rename_i p vs
                exact (show ∀ v B' H' S' T, Vl X.K B' H' σ e1 S' v (.lst xs) T → Fr B H (tot S) B' H' (fun a => T a ∨ tot S' a) → Q v H' from h) (.ref p) B1 H1 S1 U ⟨vl.rp, ⟨p, vs, rfl, k1, k2, k3⟩, fun x z => vl.own x (w3 x z), fun x z => vl.dj x (w3 x z)⟩ (f1.imp (fun _ z => z) fun x z => z.elim (fun z => .inl (w3 x z)) .inr)
          | _ => exact h.elim
      | _ => exact h.elim
    | _ => exact h.elim
end
def ixR (k : Nat) (e : Sl) : O → Option (Ro O)
  | .tr (.tup ts) => (match ts[k]? with
    | some (.lst xs) => some (.ok (.lst xs) e)
    | _ => none)
  | _ => none
theorem ixR_t {k : Nat} {e : Sl} {ts : List T} {xs : List D} (h : ts[k]? = some (.lst xs)) : ixR k e (.tr (.tup ts)) = some (.ok (.lst xs) e) := by
  unfold ixR
  dsimp only
  rw [h]
theorem ixR_1 {e : Sl} {t : T} {ts : List T} {xs : List D} : ixR 1 e (.tr (.tup (t :: .lst xs :: ts))) = some (.ok (.lst xs) e) := ixR_t rfl
theorem eIxT_a {e : Sl} (k : Nat) (f : M O) : eIxT k f e = @thn' _ _ (f e) ⟨fun o e1 => ixR k e1 o⟩ := by
  unfold eIxT
  rw [bind_a]
  refine thn_congr fun o e1 => ?_
  unfold ixR
  cases o with
  | tr t =>
    cases t with
    | tup ts =>
      dsimp only
      cases ts[k]? with
      | none => rfl
      | some t1 => cases t1 <;> rfl
    | _ => rfl
  | _ => rfl
end Dn

namespace Dn
open PySem L2
open PySem.Spec PyProof.Rows
open Evl (Ex)

/-! ## 65. Defs called where no repr is under way: repr of data -/
/-- a def's promise where no repr is under way -/
structure FnG (P : Program) (w : World) (K : PySem.W.Frag) (mg : Str → Option Value) (base : Heap) (CX : CXT) (k : Nat) (f : Addr) (fd : FuncData) (ps : List Str) (sp : Sp) : Prop where
  len : ∀ vs H Q E, sp vs H Q E → vs.length = ps.length
  run : ∀ (A : Around) (outer : List Env) (s : Shared) (H : Hp) (args : Args) (us : List Value) (vs : List V) (Q : VK) (E : XK), A.guards = some [] → Room k A → Env0 P w K mg base A outer s H → BindsTo s fd args (ps.zip us) → Vals vs us → sp vs H Q E →
    codeAny (model P w) A (.call (.ref f) args) (CR CX outer P w H s Q E) s
section
variable {P : Program} {w : World} {K : PySem.W.Frag} {mg : Str → Option Value} {base : Heap} {CX : CXT} {j k : Nat} {f : Addr} {fd : FuncData} {ps : List Str} {sp sp' : Sp}
theorem FnG.of (F : FnOk P w K mg base CX k f fd ps sp) : FnG P w K mg base CX k f fd ps sp := ⟨F.len, fun A outer s H args us vs Q E _ => F.run A outer s H args us vs Q E⟩
theorem FnG.mono (F : FnG P w K mg base CX j f fd ps sp) (h : j ≤ k) : FnG P w K mg base CX k f fd ps sp := ⟨F.len, fun A outer s H args us vs Q E g hr => F.run A outer s H args us vs Q E g (hr.mono h)⟩
theorem FnG.imp (F : FnG P w K mg base CX k f fd ps sp) (h : ∀ vs H Q E, sp' vs H Q E → sp vs H Q E) : FnG P w K mg base CX k f fd ps sp' :=
  ⟨fun vs H Q E q => F.len vs H Q E (h _ _ _ _ q), fun A outer s H args us vs Q E g hr he hb hv hs => F.run A outer s H args us vs Q E g hr he hb hv (h _ _ _ _ hs)⟩
end
theorem deeper_g {A : Around} {env : Env} (h : A.guards = some []) : (A.deeper env).guards = some [] := by
  first | exact h | simpa [Around.deeper, Around.under, pushGuards] using h
theorem fnG_of {CX : CXT} {P : Program} {w : World} {K : PySem.W.Frag} {mg : Str → Option Value} {base : Heap} {k : Nat} {f : Addr} {name qual : Str} {params : Arguments} {body : List Stmt} {scope : Scope} {dV kV doc pm cdv ct oc : Value} {an od : Option Addr}
    {osl : Array (Option Value)} {N ps : List Str} {sp : Sp} (lk : K.lookup f = some ⟨oc, od, .func (PySem.W.fnOf name qual params body scope dV kV doc pm an cdv ct), osl⟩) (hcd : PySem.W.codeIn K cdv qual = true) (S : FnScope N ps scope)
    (len : ∀ vs H Q E, sp vs H Q E → vs.length = ps.length)
    (hbody : ∀ (A : Around) (outer : List Env) (s : Shared) (H : Hp) (vs : List V) (Q : VK) (E : XK), A.guards = some [] → Room k (A.deeper (envOfC qual scope s.heap.objs.size f cdv)) → sp vs H Q E →
      ∃ t, PSs (cxOf CX P w K mg base N qual scope f cdv A outer s H E) body t ∧ t { nx := fun _ H' => Q .non H', rt := Q } (start N vs) H) :
    FnG P w K mg base CX (k + 1) f (PySem.W.fnOf name qual params body scope dV kV doc pm an cdv ct) ps sp := by
  refine ⟨len, fun A outer s H args us vs Q E gA hr e0 hb r hsp => ?_⟩
  have hl := len _ _ _ _ hsp
  have KX : K.In s.heap := e0.mod.kin.keeps fun b o e => (e0.bs b o e).1
  have lim : s.heap.NoLimit := e0.mod.nolimit.keeps fun b o e => (e0.bs b o e).1
  have hkind : ∀ y ∈ ps.zip us, scope.names.lookup y.1 = some .local ∨ (scope.names.lookup y.1 = some .cell ∧ ((cellsFrom (s.heap.objs.size + 1) scope.names []).lookup y.1).isSome = true) := fun ⟨n, v⟩ hy => by
    rcases S.par n (List.of_mem_zip hy).1 with q | q
    · exact .inl q
    · exact .inr ⟨q, PySem.W.cellsFrom_some _ _ _ (.inl q)⟩
  refine codeAny_call_function hr.depth (KX _ _ lk) rfl S.co S.gen rfl (PySem.W.codeRec_of KX hcd) (hb _ _ _ _ ?_)
  refine wpAny_newFunctionEnv_cells S.kind hkind fun env he s1 x => ?_
  subst he
  refine ⟨lim.keeps x.toInCall.keep, codeAny_func ?_⟩
  obtain ⟨t, ht, hq⟩ := hbody A outer s H vs Q E gA (hr.deeper _) hsp
  have I : Inv (cxOf CX P w K mg base N qual scope f cdv A outer s H E) [] (start N vs) H s1 := inv_start S hr.hd e0 hl r x
  refine wpAny_mono (ht.run [] s1 (start N vs) H _ I hq) (fun fl s' hs => ?_) fun e s' hs => hs
  have fin : ∀ {σ' : L2.St} {H' : Hp} {v : V} {u : Value}, Inv (cxOf CX P w K mg base N qual scope f cdv A outer s H E) [] σ' H' s' → RelV v u → Q v H' → CE outer P w H s Q u s' :=
    fun {σ' H' v u} J rv q => ⟨v, H', J.os, J.bare, J.base, J.hok, rv, q⟩
  cases fl with
  | ret u => obtain ⟨v, σ', H', J, rv, q⟩ := hs; exact fin J rv q
  | next => obtain ⟨σ', H', J, q⟩ := hs; exact fin (v := V.non) (u := Value.none) J rfl q
  | brk => obtain ⟨_, _, _, q⟩ := hs; exact False.elim q
  | cont => obtain ⟨_, _, _, q⟩ := hs; exact False.elim q
section
variable {P : Program} {w : World} {K : PySem.W.Frag} {mg : Str → Option Value} {base : Heap}
theorem fn_dnG {x qual : Str} {st : Stmt} {f : Addr} {fd : FuncData} {N ps : List Str} {k : Nat} {ks : List Nat} {g : M Fl} (F : Fun K x qual st f fd) (Sc : FnScope N ps (defScope st)) (n m : Nat) (hn : ps.length = n) (hm : N.length = m)
    (hb : ∀ (cdv : Value) (A : Around) (outer : List PySem.Env) (s : Shared) (H : Hp) (E : XK), (cxOf (L2.CX P w) P w K mg base N qual (defScope st) f cdv A outer s H E).A.guards = some [] → Room k (A.deeper (envOfC qual (defScope st) s.heap.objs.size f cdv)) →
      Takes (cxOf (L2.CX P w) P w K mg base N qual (defScope st) f cdv A outer s H E) (fun cls d _ H => E cls d H) →
      PassesOwn (model P w) (A.deeper (envOfC qual (defScope st) s.heap.objs.size f cdv)) (envOfC qual (defScope st) s.heap.objs.size f cdv) (cxOf (L2.CX P w) P w K mg base N qual (defScope st) f cdv A outer s H E).xe →
      PSs (cxOf (L2.CX P w) P w K mg base N qual (defScope st) f cdv A outer s H E) (defBody st) (tS K mg (fun cls d _ H => E cls d H) ks g)) :
    FnG P w K mg base (L2.CX P w) (k + 1) f fd ps (spD K mg n (mkF m ks g)) := by
  subst hn
  subst hm
  obtain ⟨oc, od, dV, kV, doc, pm, an, cdv, ct, osl, rfl, lk, hcd⟩ := (fun_x F).ex
  exact fnG_of lk hcd Sc (fun vs H Q E h => h.1) fun A outer s H vs Q E gA hr hsp => ⟨_, hb cdv A outer s H E (deeper_g gA) hr (takes_of rfl rfl rfl rfl) (passes_of rfl), den_core Sc hsp⟩
theorem fnG_none {k n : Nat} {f : Addr} {fd : FuncData} {ps : List Str} (hn : ps.length = n) : FnG P w K mg base (L2.CX P w) k f fd ps (spD K mg n fun _ => none) := FnG.of (fn_none hn)
end
/-- a def of the module, by its name, called where no repr is under way -/
structure ClG (P : Program) (w : World) (K : PySem.W.Frag) (mg : Str → Option Value) (base : Heap) (k : Nat) (x : Str) (n : Nat) (F : Fn) (dv : List D) : Prop where
  ex : ∃ (f : Addr) (fd : FuncData) (ps : List Str) (ds : List Value) (dvs : List V), ps.length = n ∧ FnG P w K mg base (L2.CX P w) k f fd ps (spD K mg ps.length F) ∧ mg x = some (.ref f) ∧ PySem.W.keepIn K (.ref f) = true ∧ Binds K fd ps ds ∧ Vals dvs ds ∧ ∀ B, RepL K B dvs dv
theorem clG_mk {P : Program} {w : World} {K : PySem.W.Frag} {mg : Str → Option Value} {base : Heap} {k n : Nat} {x : Str} {F : Fn} {f : Addr} {fd : FuncData} {ps : List Str} (h : FnG P w K mg base (L2.CX P w) k f fd ps (spD K mg n F)) (hm : mg x = some (.ref f)) (hk : PySem.W.keepIn K (.ref f) = true) (hb : Binds K fd ps []) (hn : ps.length = n := by rfl) : ClG P w K mg base k x n F [] :=
  ⟨f, fd, ps, [], [], hn, by rw [hn]; exact h, hm, hk, hb, .nil, fun _ => .nil⟩
theorem ClG.mono {P : Program} {w : World} {K : PySem.W.Frag} {mg : Str → Option Value} {base : Heap} {k l n : Nat} {x : Str} {F : Fn} {dv : List D} (h : ClG P w K mg base k x n F dv) (hl : k ≤ l) : ClG P w K mg base l x n F dv := by
  obtain ⟨f, fd, ps, ds, dvs, h0, h1, h2⟩ := h.ex
  exact ⟨f, fd, ps, ds, dvs, h0, h1.mono hl, h2⟩
section
variable {X : Cx} {W : WX} {x : Str} {p pos : Pos} {e : Expr} {es : List Expr} {k j n : Nat} {F : Fn} {dv : List D} {ps : List P}
theorem run_fnG {CX : CXT} {pins : List (Addr × Obj)} {σ : L2.St} {H : Hp} {s : Shared} {Q : VK} {f : Addr} {fd : FuncData} {pn : List Str} {sp : Sp} {ds : List Value} {dvs : List V} {us : List Value} {vs : List V} {E : L2.St → XK} (F : FnG X.prog X.w X.K X.mg X.base CX k f fd pn sp) (hgu : X.A.guards = some []) (hr : Room k X.A) (hb : Binds X.K fd pn ds) (hd : Vals dvs ds) (hx : PassesAt CX X σ (E σ))
    (I : Inv X pins σ H s) (r : Vals vs us) (h : sp (vs ++ dvs) H Q (E σ)) : wpAny (model X.prog X.w) X.A (call (.ref f) us) (EP X pins σ Q) X.xe s := by
  have r2 : Vals (vs ++ dvs) (us ++ ds) := r.append hd
  have hl : (us ++ ds).length = pn.length := by rw [← r2.length]; exact F.len _ _ _ _ h
  refine wpAny_call (codeAny_mono (F.run X.A X.stack s H ⟨us, []⟩ (us ++ ds) (vs ++ dvs) Q (E σ) hgu hr I.env0 (hb s us I.kIn hl) r2 h) fun r s' hq => ?_)
  cases r with
  | error e => exact hx pins H s e s' I hq
  | ok fl =>
    cases fl with
    | ret u => exact I.after hq
    | next => exact False.elim hq
    | brk => exact False.elim hq
    | cont => exact False.elim hq
theorem d_callG (C : ClG X.prog X.w X.K X.mg X.base k x n F dv) (hgu : X.A.guards = some []) (hr : Room j X.A) (tk : Takes X W) (ha : PA X (e :: es) (tPs X.K X.mg W ps)) (hk : k ≤ j := by decide) (hg : Gl X x := by rfl) (hn : n = ps.length + dv.length := by rfl) (nd : (bs ps).Nodup := by decide)
    (hdb : (x == ("__debug__" : Str)) = false := by decide) (he : starEach (e :: es) X.env = (false, eval e X.env) :: starEach es X.env := by rfl) (hpl : (backTo pos (starEach es X.env)).any (·.1) = false := by rfl) :
    PE X (.Call (.Name x p) (e :: es) [] pos) (tE X.K X.mg W (eCall F ps dv)) := by
  obtain ⟨f, fd, pn, ds, dvs, h0, h1, h2, h3, h4, h5, h6⟩ := C.ex
  have hl : dvs.length = dv.length := (h6 fun _ => none).length
  refine ⟨fun pins s σ H Q I h => ?_⟩
  have h' := call_core hl (h0.trans hn) nd h6 h
  refine wpAny_Call_Name_kw (ld_glob I hg h2 ?_ hdb)
  refine PySem.W.callWith_K (h₀ := X.base) I.ok.mod.kin h3 (thn (ha.run pos pins s σ H _ I h') fun us s1 ⟨vs, H1, I1, r, q⟩ => ⟨I1.kIn, ?_⟩) he hpl
  exact run_fnG (E := WE W) h1 hgu (hr.mono hk) h4 h5 (passAt tk σ) I1 r q
end
end Dn

namespace Dn
open PySem L2
open PySem.Spec PyProof.Rows
open Evl (Ex)

/-! ## 66. repr of data -/
def rRepr (K : PySem.W.Frag) : List V → Hp → VK → Prop := fun xs H Q => ∃ x d, xs = [x] ∧ Dp K H x d ∧ d.canLay0 = true ∧ d.depth ≤ 64 ∧ d.showable = true ∧ d.shown.length ≤ sizeLine ∧ Q (.str d.shown) H
def gRepr : List D → Option O
  | [d] => if shp d && (d.py.showable && decide (d.py.shown.length ≤ sizeLine)) then some (sO d.py.shown) else none
  | _ => none
theorem n_repr {K : PySem.W.Frag} : SndN K (rRepr K) gRepr := by
  intro B H vs ds o hx hr hg Q q
  unfold gRepr at hg
  split at hg
  · split at hg
    · rename_i hs
      obtain ⟨v, rfl, h1⟩ := hr.one
      rw [Bool.and_eq_true, Bool.and_eq_true] at hs
      have h2 := hs.1
      unfold shp SeqAt.shaped at h2
      rw [Bool.and_eq_true] at h2
      injection hg with hg
      subst hg
      exact ⟨_, _, rfl, h1.dp hx (shp_nx hs.1), h2.1, of_decide_eq_true h2.2, hs.2.1, of_decide_eq_true hs.2.2, q.fr hx (.str _)⟩
    · cases hg
  · cases hg
theorem call_repr {X : Cx} (hgu : X.A.guards = some []) (hu : X.A.units + 80 < cLine) : CallR X (.builtin "repr") (rRepr X.K) := by
  intro pins s σ H xs us Q I r h
  obtain ⟨x, d, rfl, hd, c1, c2, c3, c4, q⟩ := h
  obtain ⟨u, rfl, rv⟩ := vals1 r
  obtain ⟨as, rd⟩ := Dp.reads I d x u hd rv
  have nd : d.hasDict = false := PyData.hasDict_of_canLay d c1
  cases rd with
  | none => exact PySem.P.repr_of_none ⟨.str _, H, I.tok _, ⟨_, rfl⟩, by simpa [PyData.shown] using q⟩
  | bool b => exact PySem.P.repr_of_bool ⟨.str _, H, I.tok _, ⟨_, rfl⟩, by simpa [PyData.shown] using q⟩
  | int i t => exact PySem.P.repr_of_int (by simpa [PyData.showable] using c3) ⟨.str _, H, I.tok _, ⟨_, rfl⟩, by simpa [PyData.shown] using q⟩
  | str z t => exact PySem.P.repr_of_str ⟨.str _, H, I.tok _, ⟨_, rfl⟩, by simpa [PyData.shown] using q⟩ (by simpa [PyData.shown] using c4)
  | list h1 h2 h3 h4 => exact repr_of_reads' (Reads.list h1 h2 h3 h4) c3 (PyData.noDict_hsm nd) hgu (by omega) (fun b o e => e) (fun h' u tk hk => ⟨.str _, H, I.kept hk, ⟨_, rfl⟩, q⟩) c4
  | tuple h1 h2 h3 h4 => exact repr_of_reads' (Reads.tuple h1 h2 h3 h4) c3 (PyData.noDict_hsm nd) hgu (by omega) (fun b o e => e) (fun h' u tk hk => ⟨.str _, H, I.kept hk, ⟨_, rfl⟩, q⟩) c4
  | dict h1 h2 h3 h4 h5 => simp [PyData.hasDict] at nd
theorem _root_.L2.Room.units80 {k : Nat} {A : Around} (r : Room k A) : A.units + 80 < cLine := by have := r.un; omega
/-! ## 67. The end for a law that asks for repr: its call, where no repr is under way -/
theorem law_callG {P : Program} {w : World} {K : PySem.W.Frag} {mg mb : Str → Option Value} {CX : CXT} {k : Nat} {fa a : Addr} {fd : FuncData} {x : Str} {sp : Sp} {s₁ : Shared} {vs : List Value} {ns : List Int}
    (KX : K.In s₁.heap) (hns : s₁.heap.Ns mainGlobals mg) (hb : s₁.heap.Ns builtinsNs mb) (hbb : ∀ x : Str, x ≠ "__name__" → mb x = bootBuiltins x) (hlim : s₁.heap.NoLimit) (hg : s₁.gens = #[])
    (ha : s₁.heap.get? a = some { cls := .type "list", data := .seq vs.toArray }) (hi : IntsAre vs ns) (hl : ns.length ≤ sizeLine) (hr : Room k callerA)
    (F : ∀ base : Heap, K.In base → base.Ns mainGlobals mg → FnG P w K mg base CX k fa fd [x] sp) (hbind : ∀ (s : Shared) (u : Value), BindsTo s fd ⟨[u], []⟩ [(x, u)])
    (hsp : ∀ H : Hp, Only H → SqL K H a (ns.map V.int) → sp [.ref a] H (fun v _ => v = .bl true) fun _ _ _ => False)
    (hCX : ∀ H e s', CX [] H s₁ (fun _ _ _ => False) e s' → False) :
    codeAny (model P w) callerA (.call (.ref fa) ⟨[.ref a], []⟩) (fun r s' => r = .ok (.ret (.bool true)) ∧ OldK s₁.heap s'.heap ∧ s'.os = s₁.os ∧ AllBare s'.gens) s₁ := by
  have lenV := hi.length
  -- the tracked heap: the script, if it is none of the module's own objects; else nothing
  obtain ⟨H, hO, hS, hok, hA, hK⟩ : ∃ H : Hp, Only H ∧ SqL K H a (ns.map V.int) ∧ HOk P w H s₁.heap ∧ (∀ b, H b ≠ none → b = a) ∧ (H a ≠ none → K.lookup a = none) := by
    cases hk : K.lookup a with
    | some o =>
      have e := KX a o hk
      rw [ha] at e
      cases e
      exact ⟨fun _ => none, fun _ => .inl rfl, .inr ⟨_, vs.toArray, _, hk, rfl, rfl, rfl, by rw [List.size_toArray, lenV]; exact hl, by simpa using vals_ints hi⟩, fun b u z => (by have z' : (none : Option HO) = some u := z; cases z'), fun b z => absurd rfl z, fun z => absurd rfl z⟩
    | none =>
      have at_a : ∀ {b : Addr} {u : HO}, (if b = a then some (HO.frz { cls := .type "list", data := .seq vs.toArray } (.lst (ns.map V.int))) else none) = some u → b = a ∧ u = .frz { cls := .type "list", data := .seq vs.toArray } (.lst (ns.map V.int)) := fun {b u} z => by
        by_cases h : b = a
        · rw [if_pos h] at z; cases z; exact ⟨h, rfl⟩
        · rw [if_neg h] at z; cases z
      refine ⟨fun b => if b = a then some (.frz { cls := .type "list", data := .seq vs.toArray } (.lst (ns.map V.int))) else none, fun b => ?_, .inl (.inr ⟨{ cls := .type "list", data := .seq vs.toArray }, if_pos rfl⟩), fun b u z => ?_, fun b z => ?_, fun _ => rfl⟩
      · by_cases h : b = a
        · exact .inr ⟨_, _, if_pos h⟩
        · exact .inl (if_neg h)
      · obtain ⟨rfl, rfl⟩ := at_a z
        exact ⟨ha, by rw [List.length_map]; exact hl, vs, _, vals_ints hi, ha⟩
      · by_cases h : b = a
        · exact h
        · exact absurd (if_neg h) z
  have free : ∀ {b : Addr} {o : Obj}, s₁.heap.get? b = some o → (b = a → H b = none) → H b = none := fun {b o} _ h => by
    cases q : H b with
    | none => rfl
    | some u => exact (h (hA b (by rw [q]; simp))).symm.trans q |>.symm
  have notA : ∀ {b : Addr} {o : Obj} {es : Array DictEntry} {ep : Nat}, s₁.heap.get? b = some o → o.data = .dict es ep → H b = none := fun {b o es ep} e d => free e fun z => by
    subst z
    rw [ha] at e
    cases e
    have d' : Data.seq vs.toArray _ = Data.dict es ep := d
    cases d'
  have base : ∀ {b : Addr} {o : Obj}, s₁.heap.get? b = some o → H b = none → (hidT s₁.heap H).get? b = some o := fun e n => hidT_get e n
  have nsK : ∀ {b : Addr} {m : Str → Option Value}, s₁.heap.Ns b m → (hidT s₁.heap H).Ns b m := fun {b m} ⟨o, es, ep, e, d, r⟩ => ⟨o, es, ep, base e (notA e d), d, r⟩
  have kIn : K.In (hidT s₁.heap H) := fun b o e => base (KX b o e) (free (KX b o e) fun z => by
    subst z
    cases q : H b with
    | none => rfl
    | some u => rw [hK (by rw [q]; simp)] at e; cases e)
  have hM : Mod K mg (hidT s₁.heap H) := ⟨kIn, nsK hns, ⟨mb, nsK hb, hbb⟩, let ⟨mc, h1, h2⟩ := hlim; ⟨mc, nsK h1, h2⟩⟩
  have e0 : Env0 P w K mg (hidT s₁.heap H) callerA [] s₁ H := ⟨rfl, hM, fun b o e => of_hidT e, Nat.le_of_eq (hidT_size _ _), trivial, fun b hb => absurd (show b ∈ ([] : List Addr) from hb) (by simp), hok, .of_eq hg⟩
  refine codeAny_mono ((F _ kIn (nsK hns)).run callerA [] s₁ H ⟨[.ref a], []⟩ [.ref a] [.ref a] _ _ rfl hr e0 (hbind s₁ (.ref a)) (.cons rfl .nil) (hsp H hO hS)) fun r s' h => ?_
  cases r with
  | error e => exact (hCX H e s' h).elim
  | ok fl =>
    cases fl with
    | next => exact False.elim h
    | brk => exact False.elim h
    | cont => exact False.elim h
    | ret u =>
      obtain ⟨v, H', os, bare, un, hok', r', q⟩ := h
      obtain rfl : v = .bl true := q
      obtain rfl : u = Value.bool true := r'
      refine ⟨rfl, OldK.of_keep fun b o e => ?_, os, bare⟩
      rcases hO b with z | ⟨ob, xs, z⟩
      · exact un.keep b o e z (fun z => absurd (show b ∈ ([] : List Addr) from z) (by simp)) (by simp)
      · obtain ⟨e1, _⟩ := hok b _ z
        obtain ⟨e2, _⟩ := hok' b _ (un.frzs b ob _ z)
        rw [e] at e1; cases e1
        exact e2
theorem law_spG {P : Program} {w : World} {K : PySem.W.Frag} {mg : Str → Option Value} {base : Heap} {CX : CXT} {k : Nat} {f : Addr} {fd : FuncData} {ps : List Str} {F : Fn} (h : FnG P w K mg base CX k f fd ps (spD K mg 1 F))
    (hF : ∀ ns : List Int, ns.length ≤ 63 → ∃ os, F [.fr (.scr ns)] = some (.ok (bO true) os)) : FnG P w K mg base CX k f fd ps (spLaw K) := by

  refine h.imp fun vs H Q E q => ?_
  obtain ⟨a, ns, ev, hs, hl, q⟩ := q
  subst ev
  obtain ⟨os, e⟩ := hF ns hl
  refine ⟨rfl, H, [.fr (.scr ns)], fun _ => noS, ⟨rfl, Ex.refl H, fun i o ho => ?_, fun _ _ _ z => z.elim, fun _ _ z => z.elim⟩, ?_⟩
  · cases i with
    | zero =>
      have ho' : some (some (O.fr (D.scr ns))) = some (some o) := ho
      cases ho'
      exact ⟨_, rfl, .scr hs, fun _ z => z⟩
    | succ i => simp at ho
  · rw [e]
    intro v B' H' S' T _ vl _
    have hr := vl.ro.1
    cases hr
    exact q H'
/-- the end over such a head, for a law that asks for repr -/
theorem walk_LG {l : PySem.W.OpenLaw} {k : Nat} {q : Program} {loose : List Str} {XP : (Str → Option Value) → Heap → Prop} {YP : World → Heap → Prop} {d : DefRec} {x : Str}
    (hn : l.most = some 63) (hdf : d.params.defaults = []) (hr : Room k callerA)
    (F : ∀ (w : World) (mg : Str → Option Value) (fa : Addr) (h : Heap), YP w h → h.Ns mainGlobals mg → mg d.name = some (.ref fa) → ∃ K : PySem.W.Frag, K.In h ∧ ∃ fd : FuncData,
      (∀ (s : Shared) (u : Value), BindsTo s fd ⟨[u], []⟩ [(x, u)]) ∧ ∀ base : Heap, K.In base → base.Ns mainGlobals mg → FnG l.prog w K mg base (L2.CX l.prog w) k fa fd [x] (spLaw K)) :
    PySem.W.WalkO q loose XP YP l.row.toRowW d [] (fun f vs => PySem.call f vs) := by
  refine _root_.Att.attach_call hn hdf fun w s₀ s₁ mg mb fa o pm cd doc a vs ns G Y ho hd hcd hmg hobj hints hlen hg => ?_
  obtain ⟨K, X, fd, hb, ok⟩ := F w mg fa _ Y G.T.g hmg
  refine law_callG X G.T.g G.T.b G.T.builtins G.T.nolimit hg hobj hints (Nat.le_trans hlen (by decide)) hr ok hb (fun H _ hS => ⟨a, ns, rfl, hS, hlen, fun _ => rfl⟩) ?_
  exact fun H e s' hx => law_cx H s₁ e s' hx
end Dn

namespace Dn
open PySem L2
open PySem.Spec PyProof.Rows
open Evl (Ex)

/-! ## 68. two dicts with the same keys and the same data: != says no -/
def rNeK (K : PySem.W.Frag) : R2 := fun x y H Q => ∃ a b kva kvb, x = .ref a ∧ y = .ref b ∧ H a = some (.dK kva) ∧ H b = some (.dK kvb) ∧ kva.map (·.1) = kvb.map (·.1) ∧ (kvb.map (·.1)).Nodup ∧
  (∀ (j : Nat) (p q : L2.Key × V), kva[j]? = some p → kvb[j]? = some q → ∃ d e, Dp K H p.2 d ∧ Dp K H q.2 e ∧ SeqAt.shaped d = true ∧ SeqAt.shaped e = true ∧ PyData.eqv d e = true) ∧ Q (.bl false) H
theorem valueAt_at {κ : Type} [DecidableEq κ] : ∀ {kb : List (κ × Value)} {j : Nat} {q : κ × Value}, (kb.map (·.1)).Nodup → kb[j]? = some q → PySem.valueAt kb q.1 = some q.2
  | [], _, _, _, h => by simp at h
  | p :: kb, 0, q, _, h => by
    have : p = q := by simpa using h
    subst this
    unfold PySem.valueAt
    simp
  | p :: kb, j + 1, q, nd, h => by
    have h : kb[j]? = some q := by simpa using h
    rw [List.map_cons, List.nodup_cons] at nd
    have ne : ¬ p.1 = q.1 := fun e => nd.1 (by rw [e]; exact List.mem_map_of_mem (List.mem_of_getElem? h))
    have ih := valueAt_at nd.2 h
    unfold PySem.valueAt at ih ⊢
    rw [List.find?_cons_of_neg (by simpa using ne)]
    exact ih
theorem hits_same {κ : Type} [DecidableEq κ] {A : Around} {s : Shared} {kb : List (κ × Value)} (nd : (kb.map (·.1)).Nodup) : ∀ (ka kr pre : List (κ × Value)), kb = pre ++ kr → ka.map (·.1) = kr.map (·.1) →
    (∀ (j : Nat) (p q : κ × Value), ka[j]? = some p → kr[j]? = some q → SeqAt.EqAt A s p.2 q.2 true) → PySem.W.KeqHits A s kb ka true
  | [], _, _, _, _, _ => .nil
  | p :: ka, [], _, _, hk, _ => by simp at hk
  | p :: ka, q :: kr, pre, e, hk, he => by
    rw [List.map_cons, List.map_cons] at hk
    injection hk with h1 h2
    have hq : kb[pre.length]? = some q := by rw [e, List.getElem?_append_right (Nat.le_refl _), Nat.sub_self]; rfl
    have v := valueAt_at nd hq
    have h1 : p.1 = q.1 := h1
    rw [← h1] at v
    obtain ⟨pk, pv⟩ := p
    have t := PySem.W.KeqHits.hit (A := A) (s := s) (kb := kb) (r := ka) v (he 0 (pk, pv) q rfl rfl) (hits_same nd ka kr (pre ++ [q]) (by rw [e]; simp) h2 fun j p q a b => he (j + 1) p q (by simpa using a) (by simpa using b))
    exact t
theorem paired_at {κ : Type} : ∀ {kv : List (κ × V)} {vs : List (κ × Value)}, KV kv vs → kv.map (·.1) = vs.map (·.1) ∧ ∀ (j : Nat) (q : κ × Value), vs[j]? = some q → ∃ p, kv[j]? = some p ∧ RelV p.2 q.2 := by
  intro kv vs h
  unfold KV at h
  induction h with
  | nil => exact ⟨rfl, fun j q h => by simp at h⟩
  | cons h t ih =>
    refine ⟨by rw [List.map_cons, List.map_cons, h.1, ih.1], fun j q hq => ?_⟩
    cases j with
    | zero => exact ⟨_, rfl, by have e := Option.some.inj hq; rw [← e]; exact h.2⟩
    | succ j => obtain ⟨p, a, b⟩ := ih.2 j q (by simpa using hq); exact ⟨p, by simpa using a, b⟩
theorem o_neK {X : Cx} (hu : X.A.units + 80 < cLine) : OpR X (compareOp .NotEq) (rNeK X.K) := by
  intro pins s σ H x y v u Q I rx ry h
  obtain ⟨a, b, kva, kvb, rfl, rfl, ha, hb, hk, nd, hd, q⟩ := h
  obtain rfl : v = Value.ref a := rx
  obtain rfl : u = Value.ref b := ry
  obtain ⟨_, la, va, ra, da⟩ := dk_of I.hok ha
  obtain ⟨_, lb, vb, rb, db⟩ := dk_of I.hok hb
  obtain ⟨ka, pa⟩ := paired_at ra
  obtain ⟨kb, pb⟩ := paired_at rb
  have kk : va.map (·.1) = vb.map (·.1) := by rw [← ka, ← kb, hk]
  have ll : va.length = vb.length := by have := congrArg List.length kk; rwa [List.length_map, List.length_map] at this
  refine PySem.W.keq_ne la lb da db (by omega) (r := true) (fun _ => hits_same (by rw [← kb]; exact nd) va vb [] rfl kk fun j p q' hp hq => ?_) ?_
  · obtain ⟨p0, g1, r1⟩ := pa j p hp
    obtain ⟨q0, g2, r2⟩ := pb j q' hq
    obtain ⟨d, e, d1, d2, s1, s2, ev⟩ := hd j p0 q0 g1 g2
    obtain ⟨as, rd1⟩ := Dp.reads I d p0.2 p.2 d1 r1
    obtain ⟨bs, rd2⟩ := Dp.reads I e q0.2 q'.2 d2 r2
    have := PySem.W.keq_at rd1 rd2 s1 s2 (A := X.A) (by show X.A.units + 1 + 64 < cLine; omega)
    rw [ev] at this
    exact this
  · rw [ll]
    simp
    exact ⟨.bl false, H, I, rfl, q⟩
def gNeK : List D → Option O
  | [.dct ks xs, .dct ks' xs'] => if decide (ks = ks') && (decide ks.Nodup && (xs.zip xs').all (fun p => shp p.1 && (shp p.2 && D.eqv p.1 p.2))) then some (bO false) else none
  | _ => none
theorem repL_at {K : PySem.W.Frag} {B : Hp} : ∀ {vs : List V} {ds : List D} {j : Nat} {v : V}, RepL K B vs ds → vs[j]? = some v → ∃ d, ds[j]? = some d ∧ Rep K B v d
  | _, _, _, _, .nil, h => by simp at h
  | _, _, 0, v, .cons h _, e => ⟨_, rfl, by have e := Option.some.inj e; rw [← e]; exact h⟩
  | _, _, j + 1, v, .cons _ t, e => repL_at (j := j) t (by simpa using e)
theorem n_neK {K : PySem.W.Frag} : Snd2 K (rNeK K) gNeK := fun B H x y a b o hx ha hb hg Q q => by
  unfold gNeK at hg
  split at hg
  · rename_i ks xs ks' xs' h
    injection h with h1 h2
    injection h2 with h2 _
    subst h1 h2
    split at hg
    · rename_i hs
      cases hg
      rw [Bool.and_eq_true, Bool.and_eq_true] at hs
      obtain ⟨e1, e2, e3⟩ := hs
      have e1 := of_decide_eq_true e1
      have e2 := of_decide_eq_true e2
      obtain ⟨a, kv, rfl, h1, k1, r1⟩ := ha
      obtain ⟨b, kv', rfl, h2, k2, r2⟩ := hb
      refine ⟨a, b, kv, kv', rfl, rfl, h1, h2, by rw [k1, k2, e1], by rw [k2, ← e1]; exact e2, fun j p q' hp hq => ?_, q.fr hx (.bl _)⟩
      obtain ⟨d, gd, rd⟩ := repL_at (j := j) (v := p.2) r1 (by rw [List.getElem?_map, hp]; rfl)
      obtain ⟨e, ge, re⟩ := repL_at (j := j) (v := q'.2) r2 (by rw [List.getElem?_map, hq]; rfl)
      have hm : (d, e) ∈ xs.zip xs' := List.mem_of_getElem? (i := j) (by rw [List.getElem?_zip_eq_some]; exact ⟨gd, ge⟩)
      have al := List.all_eq_true.mp e3 _ hm
      rw [Bool.and_eq_true, Bool.and_eq_true] at al
      exact ⟨_, _, (Rep.dp (rd.mono hx) (shp_nx al.1)), (Rep.dp (re.mono hx) (shp_nx al.2.1)), al.1, al.2.1, al.2.2⟩
    · cases hg
  · cases hg
end Dn


namespace Lw
open PySem L2 Dn
abbrev sc__law_deckN : List Str := [(PySem.Str.ofString "_law_script"), (PySem.Str.ofString "_law_seed"), (PySem.Str.ofString "_law_cell")]
theorem sc__law_deck : FnScope sc__law_deckN [(PySem.Str.ofString "_law_script")] (defScope s__law_deck) := ⟨rfl, rfl, rfl, by decide +kernel, rfl, by decide +kernel, by decide +kernel⟩
abbrev sc__law_drawN : List Str := [(PySem.Str.ofString "_law_deck_here"), (PySem.Str.ofString "_law_bound"), (PySem.Str.ofString "_law_value_here")]
theorem sc__law_draw : FnScope sc__law_drawN [(PySem.Str.ofString "_law_deck_here"), (PySem.Str.ofString "_law_bound")] (defScope s__law_draw) := ⟨rfl, rfl, rfl, by decide +kernel, rfl, by decide +kernel, by decide +kernel⟩
abbrev sc__law_letterN : List Str := [(PySem.Str.ofString "_law_deck_here")]
theorem sc__law_letter : FnScope sc__law_letterN [(PySem.Str.ofString "_law_deck_here")] (defScope s__law_letter) := ⟨rfl, rfl, rfl, by decide +kernel, rfl, by decide +kernel, by decide +kernel⟩
abbrev sc__law_textN : List Str := [(PySem.Str.ofString "_law_deck_here"), (PySem.Str.ofString "_law_most"), (PySem.Str.ofString "_law_size"), (PySem.Str.ofString "_law_k")]
theorem sc__law_text : FnScope sc__law_textN [(PySem.Str.ofString "_law_deck_here"), (PySem.Str.ofString "_law_most")] (defScope s__law_text) := ⟨rfl, rfl, rfl, by decide +kernel, rfl, by decide +kernel, by decide +kernel⟩
abbrev sc__law_namesN : List Str := [(PySem.Str.ofString "_law_deck_here"), (PySem.Str.ofString "_law_count"), (PySem.Str.ofString "_law_barred"), (PySem.Str.ofString "_law_names_here"), (PySem.Str.ofString "_law_k"), (PySem.Str.ofString "_law_name"), (PySem.Str.ofString "_law_tail")]
theorem sc__law_names : FnScope sc__law_namesN [(PySem.Str.ofString "_law_deck_here"), (PySem.Str.ofString "_law_count"), (PySem.Str.ofString "_law_barred")] (defScope s__law_names) := ⟨rfl, rfl, rfl, by decide +kernel, rfl, by decide +kernel, by decide +kernel⟩
abbrev sc__law_patternN : List Str := [(PySem.Str.ofString "_law_deck_here"), (PySem.Str.ofString "_law_pattern_here"), (PySem.Str.ofString "_law_k"), (PySem.Str.ofString "_law_sign")]
theorem sc__law_pattern : FnScope sc__law_patternN [(PySem.Str.ofString "_law_deck_here")] (defScope s__law_pattern) := ⟨rfl, rfl, rfl, by decide +kernel, rfl, by decide +kernel, by decide +kernel⟩
abbrev sc__law_partN : List Str := [(PySem.Str.ofString "_law_deck_here"), (PySem.Str.ofString "_law_names_here"), (PySem.Str.ofString "_law_registers"), (PySem.Str.ofString "_law_depth"), (PySem.Str.ofString "_law_kind"), (PySem.Str.ofString "_law_count"), (PySem.Str.ofString "_law_parts"), (PySem.Str.ofString "_law_k")]
theorem sc__law_part : FnScope sc__law_partN [(PySem.Str.ofString "_law_deck_here"), (PySem.Str.ofString "_law_names_here"), (PySem.Str.ofString "_law_registers"), (PySem.Str.ofString "_law_depth")] (defScope s__law_part) := ⟨rfl, rfl, rfl, by decide +kernel, rfl, by decide +kernel, by decide +kernel⟩
abbrev sc__law_conditionN : List Str := [(PySem.Str.ofString "_law_deck_here"), (PySem.Str.ofString "_law_names_here"), (PySem.Str.ofString "_law_registers"), (PySem.Str.ofString "_law_depth")]
theorem sc__law_condition : FnScope sc__law_conditionN [(PySem.Str.ofString "_law_deck_here"), (PySem.Str.ofString "_law_names_here"), (PySem.Str.ofString "_law_registers"), (PySem.Str.ofString "_law_depth")] (defScope s__law_condition) := ⟨rfl, rfl, rfl, by decide +kernel, rfl, by decide +kernel, by decide +kernel⟩
abbrev sc_normalN : List Str := [(PySem.Str.ofString "condition"), (PySem.Str.ofString "word"), (PySem.Str.ofString "inner")]
theorem sc_normal : FnScope sc_normalN [(PySem.Str.ofString "condition")] (defScope s_normal) := ⟨rfl, rfl, rfl, by decide +kernel, rfl, by decide +kernel, by decide +kernel⟩
abbrev sc_joinedN : List Str := [(PySem.Str.ofString "word"), (PySem.Str.ofString "parts"), (PySem.Str.ofString "neutral"), (PySem.Str.ofString "final"), (PySem.Str.ofString "members"), (PySem.Str.ofString "member")]
theorem sc_joined : FnScope sc_joinedN [(PySem.Str.ofString "word"), (PySem.Str.ofString "parts"), (PySem.Str.ofString "neutral"), (PySem.Str.ofString "final")] (defScope s_joined) := ⟨rfl, rfl, rfl, by decide +kernel, rfl, by decide +kernel, by decide +kernel⟩
abbrev sc_members_ofN : List Str := [(PySem.Str.ofString "word"), (PySem.Str.ofString "parts"), (PySem.Str.ofString "members"), (PySem.Str.ofString "part"), (PySem.Str.ofString "form"), (PySem.Str.ofString "inner"), (PySem.Str.ofString "member")]
theorem sc_members_of : FnScope sc_members_ofN [(PySem.Str.ofString "word"), (PySem.Str.ofString "parts")] (defScope s_members_of) := ⟨rfl, rfl, rfl, by decide +kernel, rfl, by decide +kernel, by decide +kernel⟩
abbrev sc__law_nodesN : List Str := [(PySem.Str.ofString "_law_condition_here"), (PySem.Str.ofString "_law_nodes_here"), (PySem.Str.ofString "_law_part_here")]
theorem sc__law_nodes : FnScope sc__law_nodesN [(PySem.Str.ofString "_law_condition_here")] (defScope s__law_nodes) := ⟨rfl, rfl, rfl, by decide +kernel, rfl, by decide +kernel, by decide +kernel⟩
abbrev sc__law_valueN : List Str := [(PySem.Str.ofString "_law_deck_here"), (PySem.Str.ofString "_law_earlier"), (PySem.Str.ofString "_law_kind")]
theorem sc__law_value : FnScope sc__law_valueN [(PySem.Str.ofString "_law_deck_here"), (PySem.Str.ofString "_law_earlier")] (defScope s__law_value) := ⟨rfl, rfl, rfl, by decide +kernel, rfl, by decide +kernel, by decide +kernel⟩
abbrev sc__law_meaningN : List Str := [(PySem.Str.ofString "_law_deck_here"), (PySem.Str.ofString "_law_names_here"), (PySem.Str.ofString "_law_meaning_here"), (PySem.Str.ofString "_law_earlier"), (PySem.Str.ofString "_law_name"), (PySem.Str.ofString "_law_value_here")]
theorem sc__law_meaning : FnScope sc__law_meaningN [(PySem.Str.ofString "_law_deck_here"), (PySem.Str.ofString "_law_names_here")] (defScope s__law_meaning) := ⟨rfl, rfl, rfl, by decide +kernel, rfl, by decide +kernel, by decide +kernel⟩
abbrev sc__law_is_conditionN : List Str := [(PySem.Str.ofString "_law_form"), (PySem.Str.ofString "_law_nodes_here"), (PySem.Str.ofString "_law_depth"), (PySem.Str.ofString "_law_part_here")]
theorem sc__law_is_condition : FnScope sc__law_is_conditionN [(PySem.Str.ofString "_law_form"), (PySem.Str.ofString "_law_nodes_here"), (PySem.Str.ofString "_law_depth")] (defScope s__law_is_condition) := ⟨rfl, rfl, rfl, by decide +kernel, rfl, by decide +kernel, by decide +kernel⟩
abbrev sc__law_matchesN : List Str := [(PySem.Str.ofString "_law_pattern_here"), (PySem.Str.ofString "_law_text_here"), (PySem.Str.ofString "_law_reached"), (PySem.Str.ofString "_law_sign"), (PySem.Str.ofString "_law_following"), (PySem.Str.ofString "_law_at"), (PySem.Str.ofString "_law_k")]
theorem sc__law_matches : FnScope sc__law_matchesN [(PySem.Str.ofString "_law_pattern_here"), (PySem.Str.ofString "_law_text_here")] (defScope s__law_matches) := ⟨rfl, rfl, rfl, by decide +kernel, rfl, by decide +kernel, by decide +kernel⟩
abbrev sc__law_holdsN : List Str := [(PySem.Str.ofString "_law_condition_here"), (PySem.Str.ofString "_law_meaning_here"), (PySem.Str.ofString "_law_word"), (PySem.Str.ofString "_law_count"), (PySem.Str.ofString "_law_part_here"), (PySem.Str.ofString "_law_value_here")]
theorem sc__law_holds : FnScope sc__law_holdsN [(PySem.Str.ofString "_law_condition_here"), (PySem.Str.ofString "_law_meaning_here")] (defScope s__law_holds) := ⟨rfl, rfl, rfl, by decide +kernel, rfl, by decide +kernel, by decide +kernel⟩
abbrev sc_lawN : List Str := [(PySem.Str.ofString "_law_script"), (PySem.Str.ofString "_law_deck_here"), (PySem.Str.ofString "_law_names_here"), (PySem.Str.ofString "_law_registers"), (PySem.Str.ofString "_law_condition_here"), (PySem.Str.ofString "_law_form"), (PySem.Str.ofString "_law_nodes_here"), (PySem.Str.ofString "_law_k"), (PySem.Str.ofString "_law_meaning_here")]
theorem sc_law : FnScope sc_lawN [(PySem.Str.ofString "_law_script")] (defScope s_law) := ⟨rfl, rfl, rfl, by decide +kernel, rfl, by decide +kernel, by decide +kernel⟩
/-! ### what each def computes -/
noncomputable section
def B__law_deck_0 : M Fl :=
  (sSet 1 (ap gMod [.v (ap gInt [.v (ap gAdd [.v (ap gMul [.b 1, .v (eC (.int 48271))]), .b 2])]), .v (eC (.int 2147483647))]))
def G__law_deck : M Fl :=
  (sSeq (sSet 1 (eC (.int 7)))
  (sSeq (sFor (sSeqD (eVar 0)) (.n 2)
    B__law_deck_0)
  (sRet (eLst [(eC (.int 0)), (eC (.int 0)), (eVar 1), (ap gListX [.b 0]), (eC (.int 19))]))))
def F__law_deck : Fn := mkF 3 [0] G__law_deck
def G__law_draw : M Fl :=
  (sSeq (sIf (cAnd (tst (ap gEq [.v (ap gIx [.b 0, .v (eC (.int 0))]), .v (eC (.int 0))])) (tst (ap gLtX [.v (ap gIx [.b 0, .v (eC (.int 1))]), .v (ap gLen [.v (ap gIx [.b 0, .v (eC (.int 3))])])])))
    (sSeq (sSetIx 0 (eC (.int 0)) (ap gAbs [.v (ap gIx [.v (ap gIx [.b 0, .v (eC (.int 3))]), .v (ap gIx [.b 0, .v (eC (.int 1))])])]))
  (sSetIx 0 (eC (.int 1)) (ap gAdd [.v (ap gIx [.b 0, .v (eC (.int 1))]), .v (eC (.int 1))])))
    (sIf (tst (ap gEq [.v (ap gIx [.b 0, .v (eC (.int 0))]), .v (eC (.int 0))]))
    (sSeq (sSetIx 0 (eC (.int 2)) (ap gMod [.v (ap gInt [.v (ap gAdd [.v (ap gMul [.v (ap gIx [.b 0, .v (eC (.int 2))]), .v (eC (.int 48271))]), .v (eC (.int 11))])]), .v (eC (.int 2147483647))]))
  (sSetIx 0 (eC (.int 0)) (ap gDiv [.v (ap gIx [.b 0, .v (eC (.int 2))]), .v (eC (.int 5))])))
    sNext))
  (sSeq (sSet 2 (ap gMod [.v (ap gInt [.v (ap gIx [.b 0, .v (eC (.int 0))])]), .b 1]))
  (sSeq (sSetIx 0 (eC (.int 0)) (ap gDiv [.v (ap gIx [.b 0, .v (eC (.int 0))]), .b 1]))
  (sRet (eMove 2)))))
def F__law_draw : Fn := mkF 3 [0, 1] G__law_draw
def G__law_letter : M Fl :=
  (sSeq (sIf (tst (ap gEq [.v (eCall F__law_draw [.b 0, .v (eC (.int 2))] []), .v (eC (.int 0))]))
    (sRet (ap gIx [.v (eC (.str (PySem.Str.ofString "ab"))), .v (eCall F__law_draw [.b 0, .v (eC (.int 2))] [])]))
    sNext)
  (sRet (ap gIx [.v (eC (.str (PySem.Str.ofString "abcdefghijklmnopqrstuvwxyz"))), .v (eCall F__law_draw [.b 0, .v (eC (.int 26))] [])])))
def F__law_letter : Fn := mkF 1 [0] G__law_letter
def C__law_text_0 : M O :=
  (eCall F__law_letter [.b 0] [])
def G__law_text : M Fl :=
  (sSeq (sSet 2 (eCall F__law_draw [.b 0, .v (ap gAdd [.b 1, .v (eC (.int 1))])] []))
  (sRet (apM isStr gJoin (.v (eC (.str (PySem.Str.ofString "")))) [.v (eComp [3] (sRng1 (.b 2)) (.n 3) cYes C__law_text_0)])))
def F__law_text : Fn := mkF 4 [0, 1] G__law_text
def B__law_names_0 : M Fl :=
  (sSeq (sIf (cAnd (tst (ap gNotIn [.b 5, .b 3])) (tst (ap gNotIn [.b 5, .b 2])))
    sBrk
    sNext)
  (sSet 5 (ap gAdd [.b 5, .v (ap gIx [.v (eC (.str (PySem.Str.ofString "abcdefghijklmnopqrstuvwxyz"))), .v (ap gMod [.v (ap gInt [.v (ap gAdd [.v (ap gMul [.b 4, .v (eC (.int 7))]), .b 6])]), .v (eC (.int 26))])])])))
def B__law_names_1 : M Fl :=
  (sSeq (sSet 5 (ap gAdd [.v (eCall F__law_letter [.b 0] []), .v (eCall F__law_text [.b 0, .v (eC (.int 2))] [])]))
  (sSeq (sFor (sRng1 (.v (eC (.int 9)))) (.n 6)
    B__law_names_0)
  (sDrop (eMut1 gApp 3 (eVar 5)))))
def G__law_names : M Fl :=
  (sSeq (sSet 3 (eLst []))
  (sSeq (sFor (sRng1 (.b 1)) (.n 4)
    B__law_names_1)
  (sRet (eMove 3))))
def F__law_names : Fn := mkF 7 [0, 1, 2] G__law_names
def B__law_pattern_0 : M Fl :=
  (sSeq (sSet 3 (eCall F__law_draw [.b 0, .v (eC (.int 5))] []))
  (sIf (tst (ap gEq [.b 3, .v (eC (.int 0))]))
    (sSet 1 (ap gAdd [.b 1, .v (eC (.str (PySem.Str.ofString "?")))]))
    (sIf (cAnd (tst (ap gEq [.b 3, .v (eC (.int 1))])) (tst (ap gLtX [.v (apM isStr gCount (.b 1) [.v (eC (.str (PySem.Str.ofString "*")))]), .v (eC (.int 2))])))
    (sSet 1 (ap gAdd [.b 1, .v (eC (.str (PySem.Str.ofString "*")))]))
    (sSet 1 (ap gAdd [.b 1, .v (eCall F__law_letter [.b 0] [])])))))
def G__law_pattern : M Fl :=
  (sSeq (sSet 1 (eC (.str (PySem.Str.ofString ""))))
  (sSeq (sFor (sRng1 (.v (eCall F__law_draw [.b 0, .v (eC (.int 6))] []))) (.n 2)
    B__law_pattern_0)
  (sRet (eMove 1))))
def F__law_pattern : Fn := mkF 4 [0] G__law_pattern
def C__law_part_0 (S__law_part : Fn) : M O :=
  (eCall S__law_part [.b 0, .b 1, .b 2, .v (ap gSub [.b 3, .v (eC (.int 1))])] [])
def G__law_part (S__law_part : Fn) : M Fl :=
  (sSeq (sSet 4 (eCall F__law_draw [.b 0, .v (eC (.int 9))] []))
  (sSeq (sIf (cAnd (tst (ap gLtX [.b 4, .v (eC (.int 3))])) (tst (ap gGt [.b 3, .v (eC (.int 1))])))
    (sSeq (sSet 5 (eCall F__law_draw [.b 0, .v (eC (.int 4))] []))
  (sSeq (sIf (tst (ap gEq [.v (eCall F__law_draw [.b 0, .v (eC (.int 12))] []), .v (eC (.int 0))]))
    (sSet 5 (ap gAdd [.v (eC (.int 5)), .v (eCall F__law_draw [.b 0, .v (eC (.int 15))] [])]))
    sNext)
  (sSeq (sSet 5 (ap gMin2 [.b 5, .v (ap gIx [.b 0, .v (eC (.int 4))])]))
  (sSeq (sSetIx 0 (eC (.int 4)) (ap gSub [.v (ap gIx [.b 0, .v (eC (.int 4))]), .b 5]))
  (sSeq (sSet 6 (eComp [7] (sRng1 (.b 5)) (.n 7) cYes (C__law_part_0 S__law_part)))
  (sSeq (sIf (cAnd (tst (ap gGt [.b 5, .v (eC (.int 0))])) (cAnd (tst (ap gGt [.v (ap gIx [.b 0, .v (eC (.int 4))]), .v (eC (.int 0))])) (cAnd (tst (ap gLtX [.v (ap gLen [.v (ap gIx [.b 6, .v (eC (.int 0))])]), .v (eC (.int 4))])) (tst (ap gIn [.v (ap gIx [.v (ap gIx [.b 6, .v (eC (.int 0))]), .v (eC (.int 0))]), .v (eLst [(eC (.str (PySem.Str.ofString "matches"))), (eC (.str (PySem.Str.ofString "empty"))), (eC (.str (PySem.Str.ofString "never")))])])))))
    (sSeq (sSetIx 0 (eC (.int 4)) (ap gSub [.v (ap gIx [.b 0, .v (eC (.int 4))]), .v (eC (.int 1))]))
  (sDrop (eMut1 gApp 6 (ap gIx [.b 6, .v (eC (.int 0))]))))
    sNext)
  (sRet (ap gAdd [.v (eTup [(ap gIx [.v (eLst [(eC (.str (PySem.Str.ofString "and"))), (eC (.str (PySem.Str.ofString "or")))]), .v (eCall F__law_draw [.b 0, .v (eC (.int 2))] [])])]), .v (ap gTuple [.b 6])]))))))))
    sNext)
  (sSeq (sIf (cAnd (tst (ap gEq [.b 4, .v (eC (.int 3))])) (cAnd (tst (ap gGt [.b 3, .v (eC (.int 1))])) (tst (ap gGt [.v (ap gIx [.b 0, .v (eC (.int 4))]), .v (eC (.int 0))]))))
    (sSeq (sSetIx 0 (eC (.int 4)) (ap gSub [.v (ap gIx [.b 0, .v (eC (.int 4))]), .v (eC (.int 1))]))
  (sRet (eTup [(eC (.str (PySem.Str.ofString "not"))), (eCall S__law_part [.b 0, .b 1, .b 2, .v (ap gSub [.b 3, .v (eC (.int 1))])] [])])))
    sNext)
  (sSeq (sIf (tst (ap gLtX [.b 4, .v (eC (.int 6))]))
    (sRet (eTup [(eC (.str (PySem.Str.ofString "matches"))), (ap gIx [.b 1, .v (eCall F__law_draw [.b 0, .v (ap gLen [.b 1])] [])]), (eCall F__law_pattern [.b 0] [])]))
    sNext)
  (sSeq (sIf (tst (ap gEq [.b 4, .v (eC (.int 6))]))
    (sRet (eTup [(eC (.str (PySem.Str.ofString "same"))), (ap gIx [.b 1, .v (eCall F__law_draw [.b 0, .v (ap gLen [.b 1])] [])]), (ap gIx [.b 1, .v (eCall F__law_draw [.b 0, .v (ap gLen [.b 1])] [])])]))
    sNext)
  (sSeq (sIf (cAnd (tst (ap gEq [.b 4, .v (eC (.int 7))])) (tst (ap gGt [.v (ap gLen [.b 2]), .v (eC (.int 0))])))
    (sRet (eTup [(eC (.str (PySem.Str.ofString "empty"))), (ap gIx [.b 2, .v (eCall F__law_draw [.b 0, .v (ap gLen [.b 2])] [])])]))
    sNext)
  (sRet (eTup [(ap gIx [.v (eLst [(eC (.str (PySem.Str.ofString "always"))), (eC (.str (PySem.Str.ofString "never")))]), .v (eCall F__law_draw [.b 0, .v (eC (.int 2))] [])])]))))))))
def F__law_part : Nat → Fn
  | 0 => fun _ => none
  | n + 1 => mkF 8 [0, 1, 2, 3] (G__law_part (F__law_part n))
def G__law_condition : M Fl :=
  (sSeq (sSetIx 0 (eC (.int 4)) (eC (.int 19)))
  (sRet (eCall (F__law_part 40) [.b 0, .b 1, .b 2, .b 3] [])))
def F__law_condition : Fn := mkF 4 [0, 1, 2, 3] G__law_condition
def G_normal (S_normal S_joined S_members_of : Fn) : M Fl :=
  (sSeq (sSet 1 (ap gIx [.b 0, .v (eC (.int 0))]))
  (sSeq (sIf (tst (ap gEq [.b 1, .v (eC (.str (PySem.Str.ofString "and")))]))
    (sRet (eCall S_joined [.b 1, .v (ap (gSl true false) [.b 0, .v (eC (.int 1))]), .v (eC (.tup [D.str (PySem.Str.ofString "always")])), .v (eC (.tup [D.str (PySem.Str.ofString "never")]))] []))
    sNext)
  (sSeq (sIf (tst (ap gEq [.b 1, .v (eC (.str (PySem.Str.ofString "or")))]))
    (sRet (eCall S_joined [.b 1, .v (ap (gSl true false) [.b 0, .v (eC (.int 1))]), .v (eC (.tup [D.str (PySem.Str.ofString "never")])), .v (eC (.tup [D.str (PySem.Str.ofString "always")]))] []))
    sNext)
  (sSeq (sIf (tst (ap gNe [.b 1, .v (eC (.str (PySem.Str.ofString "not")))]))
    (sRet (eVar 0))
    sNext)
  (sSeq (sSet 2 (eCall S_normal [.v (ap gIx [.b 0, .v (eC (.int 1))])] []))
  (sSeq (sIf (tst (ap gEq [.b 2, .v (eC (.tup [D.str (PySem.Str.ofString "always")]))]))
    (sRet (eC (.tup [D.str (PySem.Str.ofString "never")])))
    sNext)
  (sSeq (sIf (tst (ap gEq [.b 2, .v (eC (.tup [D.str (PySem.Str.ofString "never")]))]))
    (sRet (eC (.tup [D.str (PySem.Str.ofString "always")])))
    sNext)
  (sSeq (sIf (tst (ap gEq [.v (ap gIx [.b 2, .v (eC (.int 0))]), .v (eC (.str (PySem.Str.ofString "not")))]))
    (sRet (ap gIx [.b 2, .v (eC (.int 1))]))
    sNext)
  (sRet (eTup [(eC (.str (PySem.Str.ofString "not"))), (eVar 2)]))))))))))
def T_joined_0 (S_normal S_joined S_members_of : Fn) : M Bool :=
  (tst (ap gNe [.b 5, .b 2]))
def C_joined_0 (S_normal S_joined S_members_of : Fn) : M O :=
  (eVar 5)
def G_joined (S_normal S_joined S_members_of : Fn) : M Fl :=
  (sSeq (sSet 4 (eCall S_members_of [.b 0, .b 1] []))
  (sSeq (sIf (tst (ap gIn [.b 3, .b 4]))
    (sRet (eVar 3))
    sNext)
  (sSeq (sSet 4 (eComp [5] (sSeqD (eVar 4)) (.n 5) (T_joined_0 S_normal S_joined S_members_of) (C_joined_0 S_normal S_joined S_members_of)))
  (sSeq (sIf (tst (ap gEq [.v (ap gLen [.b 4]), .v (eC (.int 0))]))
    (sRet (eVar 2))
    sNext)
  (sSeq (sIf (tst (ap gEq [.v (ap gLen [.b 4]), .v (eC (.int 1))]))
    (sRet (ap gIx [.b 4, .v (eC (.int 0))]))
    sNext)
  (sRet (ap gAdd [.v (eTup [(eVar 0)]), .v (ap gTuple [.b 4])])))))))
def B_members_of_0 (S_normal S_joined S_members_of : Fn) : M Fl :=
  (sIf (tst (ap gNotIn [.b 6, .b 2]))
    (sDrop (eMut1 gApp 2 (eVar 6)))
    sNext)
def B_members_of_1 (S_normal S_joined S_members_of : Fn) : M Fl :=
  (sSeq (sSet 4 (eCall S_normal [.b 3] []))
  (sSeq (sSet 5 (eTup [(eVar 4)]))
  (sSeq (sIf (tst (ap gEq [.v (ap gIx [.b 4, .v (eC (.int 0))]), .b 0]))
    (sSet 5 (ap (gSl true false) [.b 4, .v (eC (.int 1))]))
    sNext)
  (sFor (sSeqD (eVar 5)) (.n 6)
    (B_members_of_0 S_normal S_joined S_members_of)))))
def G_members_of (S_normal S_joined S_members_of : Fn) : M Fl :=
  (sSeq (sSet 2 (eLst []))
  (sSeq (sFor (sSeqD (eVar 1)) (.n 3)
    (B_members_of_1 S_normal S_joined S_members_of))
  (sRet (eMove 2))))
mutual
def F_normal : Nat → Fn
  | 0 => fun _ => none
  | n + 1 => mkF 3 [0] (G_normal (F_normal n) (F_joined n) (F_members_of n))
def F_joined : Nat → Fn
  | 0 => fun _ => none
  | n + 1 => mkF 6 [0, 1, 2, 3] (G_joined (F_normal n) (F_joined n) (F_members_of n))
def F_members_of : Nat → Fn
  | 0 => fun _ => none
  | n + 1 => mkF 7 [0, 1] (G_members_of (F_normal n) (F_joined n) (F_members_of n))
end
def B__law_nodes_0 (S__law_nodes : Fn) : M Fl :=
  (sSet 1 (ap gAdd [.b 1, .v (eCall S__law_nodes [.b 2] [])]))
def G__law_nodes (S__law_nodes : Fn) : M Fl :=
  (sSeq (sSet 1 (eLst [(eVar 0)]))
  (sSeq (sIf (tst (ap gIn [.v (ap gIx [.b 0, .v (eC (.int 0))]), .v (eLst [(eC (.str (PySem.Str.ofString "and"))), (eC (.str (PySem.Str.ofString "or"))), (eC (.str (PySem.Str.ofString "not")))])]))
    (sFor (sSeqD (ap (gSl true false) [.b 0, .v (eC (.int 1))])) (.n 2)
    (B__law_nodes_0 S__law_nodes))
    sNext)
  (sRet (eMove 1))))
def F__law_nodes : Nat → Fn
  | 0 => fun _ => none
  | n + 1 => mkF 3 [0] (G__law_nodes (F__law_nodes n))
def G__law_value : M Fl :=
  (sSeq (sSet 2 (eCall F__law_draw [.b 0, .v (eC (.int 6))] []))
  (sSeq (sIf (tst (ap gEq [.b 2, .v (eC (.int 0))]))
    (sRet (eC .non))
    sNext)
  (sSeq (sIf (tst (ap gEq [.b 2, .v (eC (.int 1))]))
    (sRet (ap gSub [.v (eCall F__law_draw [.b 0, .v (eC (.int 4))] []), .v (eC (.int 2))]))
    sNext)
  (sSeq (sIf (tst (ap gEq [.b 2, .v (eC (.int 2))]))
    (sRet (eTup [(eC (.str (PySem.Str.ofString "own"))), (eCall F__law_draw [.b 0, .v (eC (.int 3))] [])]))
    sNext)
  (sSeq (sIf (cAnd (tst (ap gEq [.b 2, .v (eC (.int 3))])) (tst (ap gGt [.v (ap gLen [.b 1]), .v (eC (.int 0))])))
    (sRet (ap gIx [.b 1, .v (eCall F__law_draw [.b 0, .v (ap gLen [.b 1])] [])]))
    sNext)
  (sRet (eCall F__law_text [.b 0, .v (eC (.int 4))] [])))))))
def F__law_value : Fn := mkF 3 [0, 1] G__law_value
def B__law_meaning_0 : M Fl :=
  (sSeq (sSet 5 (eCall F__law_value [.b 0, .b 3] []))
  (sSeq (sDrop (eMut1 gApp 3 (eVar 5)))
  (sSetK 2 (eVar 4) (eVar 5))))
def G__law_meaning : M Fl :=
  (sSeq (sSet 2 eDct0)
  (sSeq (sSet 3 (eLst []))
  (sSeq (sFor (sSeqD (eVar 1)) (.n 4)
    B__law_meaning_0)
  (sRet (eMove 2)))))
def F__law_meaning : Fn := mkF 6 [0, 1] G__law_meaning
def B__law_is_condition_0 (S__law_is_condition : Fn) : M Fl :=
  (sIf (cNot (tst (eCall S__law_is_condition [.b 3, .b 1, .v (ap gSub [.b 2, .v (eC (.int 1))])] [])))
    (sRet (eC (.bl false)))
    sNext)
def G__law_is_condition (S__law_is_condition : Fn) : M Fl :=
  (sSeq (sIf (cOr (cNot (tst (ap (gIsi "tuple") [.b 0]))) (cOr (tst (ap gEq [.v (ap gLen [.b 0]), .v (eC (.int 0))])) (tst (ap gEq [.b 2, .v (eC (.int 0))]))))
    (sRet (eC (.bl false)))
    sNext)
  (sSeq (sIf (cOr (tst (ap gEq [.v (ap gIx [.b 0, .v (eC (.int 0))]), .v (eC (.str (PySem.Str.ofString "always")))])) (tst (ap gEq [.v (ap gIx [.b 0, .v (eC (.int 0))]), .v (eC (.str (PySem.Str.ofString "never")))])))
    (sRet (ap gEq [.v (ap gLen [.b 0]), .v (eC (.int 1))]))
    sNext)
  (sSeq (sIf (cAnd (tst (ap gEq [.v (ap gIx [.b 0, .v (eC (.int 0))]), .v (eC (.str (PySem.Str.ofString "not")))])) (tst (ap gNe [.v (ap gLen [.b 0]), .v (eC (.int 2))])))
    (sRet (eC (.bl false)))
    sNext)
  (sSeq (sIf (tst (ap gIn [.v (ap gIx [.b 0, .v (eC (.int 0))]), .v (eLst [(eC (.str (PySem.Str.ofString "and"))), (eC (.str (PySem.Str.ofString "or"))), (eC (.str (PySem.Str.ofString "not")))])]))
    (sSeq (sFor (sSeqD (ap (gSl true false) [.b 0, .v (eC (.int 1))])) (.n 3)
    (B__law_is_condition_0 S__law_is_condition))
  (sRet (eC (.bl true))))
    sNext)
  (sRet (ap gIn [.b 0, .b 1]))))))
def F__law_is_condition : Nat → Fn
  | 0 => fun _ => none
  | n + 1 => mkF 4 [0, 1, 2] (G__law_is_condition (F__law_is_condition n))
def T__law_matches_0 : M Bool :=
  (tst (ap gNotIn [.b 6, .b 4]))
def C__law_matches_0 : M O :=
  (eVar 6)
def B__law_matches_0 : M Fl :=
  (sIf (tst (ap gEq [.b 3, .v (eC (.str (PySem.Str.ofString "*")))]))
    (sSet 4 (ap gAdd [.b 4, .v (eComp [6] (sRng2 (.b 5) (.v (ap gAdd [.v (ap gLen [.b 1]), .v (eC (.int 1))]))) (.n 6) T__law_matches_0 C__law_matches_0)]))
    (sIf (cAnd (tst (ap gLtX [.b 5, .v (ap gLen [.b 1])])) (cAnd (cOr (tst (ap gEq [.b 3, .v (eC (.str (PySem.Str.ofString "?")))])) (tst (ap gEq [.v (ap gIx [.b 1, .b 5]), .b 3]))) (tst (ap gNotIn [.v (ap gAdd [.b 5, .v (eC (.int 1))]), .b 4]))))
    (sDrop (eMut1 gApp 4 (ap gAdd [.b 5, .v (eC (.int 1))])))
    sNext))
def B__law_matches_1 : M Fl :=
  (sSeq (sSet 4 (eLst []))
  (sSeq (sFor (sSeqD (eVar 2)) (.n 5)
    B__law_matches_0)
  (sSet 2 (eVar 4))))
def G__law_matches : M Fl :=
  (sSeq (sSet 2 (eLst [(eC (.int 0))]))
  (sSeq (sFor (sSeqD (eVar 0)) (.n 3)
    B__law_matches_1)
  (sRet (ap gIn [.v (ap gLen [.b 1]), .b 2]))))
def F__law_matches : Fn := mkF 7 [0, 1] G__law_matches
def B__law_holds_0 (S__law_holds : Fn) : M Fl :=
  (sIf (tst (eCall S__law_holds [.b 4, .b 1] []))
    (sSet 3 (ap gAdd [.b 3, .v (eC (.int 1))]))
    sNext)
def G__law_holds (S__law_holds : Fn) : M Fl :=
  (sSeq (sSet 2 (ap gIx [.b 0, .v (eC (.int 0))]))
  (sSeq (sIf (cOr (tst (ap gEq [.b 2, .v (eC (.str (PySem.Str.ofString "always")))])) (tst (ap gEq [.b 2, .v (eC (.str (PySem.Str.ofString "never")))])))
    (sRet (ap gEq [.b 2, .v (eC (.str (PySem.Str.ofString "always")))]))
    sNext)
  (sSeq (sIf (tst (ap gEq [.b 2, .v (eC (.str (PySem.Str.ofString "not")))]))
    (sRet (eNot (eCall S__law_holds [.v (ap gIx [.b 0, .v (eC (.int 1))]), .b 1] [])))
    sNext)
  (sSeq (sIf (cOr (tst (ap gEq [.b 2, .v (eC (.str (PySem.Str.ofString "and")))])) (tst (ap gEq [.b 2, .v (eC (.str (PySem.Str.ofString "or")))])))
    (sSeq (sSet 3 (eC (.int 0)))
  (sSeq (sFor (sSeqD (ap (gSl true false) [.b 0, .v (eC (.int 1))])) (.n 4)
    (B__law_holds_0 S__law_holds))
  (sSeq (sIf (tst (ap gEq [.b 2, .v (eC (.str (PySem.Str.ofString "and")))]))
    (sRet (ap gEq [.b 3, .v (ap gSub [.v (ap gLen [.b 0]), .v (eC (.int 1))])]))
    sNext)
  (sRet (ap gGt [.b 3, .v (eC (.int 0))])))))
    sNext)
  (sSeq (sSet 5 (ap gIx [.b 1, .v (ap gIx [.b 0, .v (eC (.int 1))])]))
  (sSeq (sIf (tst (ap gEq [.b 2, .v (eC (.str (PySem.Str.ofString "matches")))]))
    (sRet (eAnd (ap (gIsi "str") [.b 5]) (eCall F__law_matches [.v (ap gIx [.b 0, .v (eC (.int 2))]), .b 5] [])))
    sNext)
  (sSeq (sIf (tst (ap gEq [.b 2, .v (eC (.str (PySem.Str.ofString "empty")))]))
    (sRet (ap gIsN [.b 5, .v (eC .non)]))
    sNext)
  (sSeq (sIf (cOr (tst (ap gIsN [.b 5, .v (eC .non)])) (tst (ap gIsN [.v (ap gIx [.b 1, .v (ap gIx [.b 0, .v (eC (.int 2))])]), .v (eC .non)])))
    (sRet (eC (.bl false)))
    sNext)
  (sRet (ap gEq [.v (ap gRepr [.b 5]), .v (ap gRepr [.v (ap gIx [.b 1, .v (ap gIx [.b 0, .v (eC (.int 2))])])])]))))))))))
def F__law_holds : Nat → Fn
  | 0 => fun _ => none
  | n + 1 => mkF 6 [0, 1] (G__law_holds (F__law_holds n))
def B_law_0 : M Fl :=
  (sSeq (sSet 8 (eCall F__law_meaning [.b 1, .b 2] []))
  (sIf (tst (ap gNe [.v (eCall (F__law_holds 40) [.b 5, .b 8] []), .v (eCall (F__law_holds 40) [.b 4, .b 8] [])]))
    (sRet (eC (.bl false)))
    sNext))
def G_law : M Fl :=
  (sSeq (sSet 1 (eCall F__law_deck [.b 0] []))
  (sSeq (sSet 2 (eCall F__law_names [.b 1, .v (ap gAdd [.v (eC (.int 1)), .v (eCall F__law_draw [.b 1, .v (eC (.int 5))] [])]), .v (eLst [(eC (.str (PySem.Str.ofString "self")))])] []))
  (sSeq (sSet 3 (ap (gSl false true) [.b 2, .v (eCall F__law_draw [.b 1, .v (eC (.int 3))] [])]))
  (sSeq (sSet 4 (eCall F__law_condition [.b 1, .b 2, .b 3, .v (eC (.int 6))] []))
  (sSeq (sSet 5 (eCall (F_normal 40) [.b 4] []))
  (sSeq (sSet 6 (eCall (F__law_nodes 40) [.b 4] []))
  (sSeq (sIf (cOr (cNot (tst (eCall (F__law_is_condition 40) [.b 5, .b 6, .v (eC (.int 6))] []))) (tst (ap gGt [.v (ap gLen [.v (eCall (F__law_nodes 40) [.b 5] [])]), .v (ap gLen [.b 6])])))
    (sRet (eC (.bl false)))
    sNext)
  (sSeq (sFor (sRng1 (.v (eC (.int 4)))) (.n 7)
    B_law_0)
  (sRet (eC (.bl true)))))))))))
def F_law : Fn := mkF 9 [0] G_law
end
/-! ### each def computes it -/
section
variable {P : Program} {w : World} {K : PySem.W.Frag} {mg : Str → Option Value} {base : Heap}
set_option maxHeartbeats 4000000 in
theorem ok__law_deck {f : Addr} {fd : FuncData} (F : Fun K "_law_deck" "_law_deck" s__law_deck f fd) (m_int : mg "int" = none) (m_list : mg "list" = none) : FnOk P w K mg base (L2.CX P w) 1 f fd [(PySem.Str.ofString "_law_script")] (spD K mg 1 F__law_deck) :=
  fn_dn (k := 0) (ks := [0]) (g := G__law_deck) (N := sc__law_deckN) (ps := [(PySem.Str.ofString "_law_script")]) F sc__law_deck 1 3 rfl rfl (fun cdv A outer s H E hr tk hp => by
    have hu := hr.units
    have hu5 := hr.units5
    exact (ss_cons (s_set (i := 1) sc__law_deck.nd rfl (Or.inl rfl) d_int)
  (ss_cons (s_for hp rfl (i_seq (d_var (pv 0))) (pg_name (i := 2) sc__law_deck.nd rfl (Or.inl rfl))
    (ss_one (s_set (i := 1) sc__law_deck.nd rfl (Or.inl rfl) (d_op op_modN n_mod (p_v (d_ct call_int12 n_int rfl m_int bt_int (pa_c (p_v (d_op o_add n_add (p_v (d_op op_mul n_mul (p_b (pv 1)) (p_v d_int))) (p_b (pv 2)))) pa_n))) (p_v d_int)))) (by decide))
  (ss_one (s_ret (d_lst (is_c d_int (is_c d_int (is_c (d_var (pv 1)) (is_c (d_ct (cr_listX rfl) n_listX rfl m_list bt_list (pa_c (p_b (pv 0)) pa_n)) (is_c d_int is_n)))))))))))
set_option maxHeartbeats 4000000 in
theorem ok__law_draw {f : Addr} {fd : FuncData} (F : Fun K "_law_draw" "_law_draw" s__law_draw f fd) (m_abs : mg "abs" = none) (m_int : mg "int" = none) (m_len : mg "len" = none) : FnOk P w K mg base (L2.CX P w) 1 f fd [(PySem.Str.ofString "_law_deck_here"), (PySem.Str.ofString "_law_bound")] (spD K mg 2 F__law_draw) :=
  fn_dn (k := 0) (ks := [0, 1]) (g := G__law_draw) (N := sc__law_drawN) (ps := [(PySem.Str.ofString "_law_deck_here"), (PySem.Str.ofString "_law_bound")]) F sc__law_draw 2 3 rfl rfl (fun cdv A outer s H E hr tk hp => by
    have hu := hr.units
    have hu5 := hr.units5
    exact (ss_cons (s_if (c_w (w_and (c_cmp (o_eq hu) n_eq (p_v (d_ix (ix_any hu) n_ix (p_b (pv 0)) (p_v d_int) (fun _ _ => rfl))) (p_v d_int) (nomark _)) (w_one (c_cmp (o_ltX hu) n_ltX (p_v (d_ix (ix_any hu) n_ix (p_b (pv 0)) (p_v d_int) (fun _ _ => rfl))) (p_v (d_cb call_len n_len rfl m_len bt_len (pa_c (p_v (d_ix (ix_any hu) n_ix (p_b (pv 0)) (p_v d_int) (fun _ _ => rfl))) pa_n))) (nomark _)))))
    (ss_cons (s_setIx (pv 0) d_int (d_cb call_abs n_abs rfl m_abs bt_abs (pa_c (p_v (d_ix (ix_any hu) n_ix (p_v (d_ix (ix_any hu) n_ix (p_b (pv 0)) (p_v d_int) (fun _ _ => rfl))) (p_v (d_ix (ix_any hu) n_ix (p_b (pv 0)) (p_v d_int) (fun _ _ => rfl))) (fun _ _ => rfl))) pa_n)))
  (ss_one (s_setIx (pv 0) d_int (d_op o_add n_add (p_v (d_ix (ix_any hu) n_ix (p_b (pv 0)) (p_v d_int) (fun _ _ => rfl))) (p_v d_int)))))
    (ss_one (s_if (c_cmp (o_eq hu) n_eq (p_v (d_ix (ix_any hu) n_ix (p_b (pv 0)) (p_v d_int) (fun _ _ => rfl))) (p_v d_int) (nomark _))
    (ss_cons (s_setIx (pv 0) d_int (d_op op_modN n_mod (p_v (d_ct call_int12 n_int rfl m_int bt_int (pa_c (p_v (d_op o_add n_add (p_v (d_op op_mul n_mul (p_v (d_ix (ix_any hu) n_ix (p_b (pv 0)) (p_v d_int) (fun _ _ => rfl))) (p_v d_int))) (p_v d_int))) pa_n))) (p_v d_int)))
  (ss_one (s_setIx (pv 0) d_int (d_op op_fdivN n_div (p_v (d_ix (ix_any hu) n_ix (p_b (pv 0)) (p_v d_int) (fun _ _ => rfl))) (p_v d_int)))))
    ss_nil)))
  (ss_cons (s_set (i := 2) sc__law_draw.nd rfl (Or.inl rfl) (d_op op_modN n_mod (p_v (d_ct call_int12 n_int rfl m_int bt_int (pa_c (p_v (d_ix (ix_any hu) n_ix (p_b (pv 0)) (p_v d_int) (fun _ _ => rfl))) pa_n))) (p_b (pv 1))))
  (ss_cons (s_setIx (pv 0) d_int (d_op op_fdivN n_div (p_v (d_ix (ix_any hu) n_ix (p_b (pv 0)) (p_v d_int) (fun _ _ => rfl))) (p_b (pv 1))))
  (ss_one (s_ret (d_move (pv 2))))))))
set_option maxHeartbeats 4000000 in
theorem ok__law_letter {f : Addr} {fd : FuncData} (F : Fun K "_law_letter" "_law_letter" s__law_letter f fd) (c__law_draw : Cl P w K mg base 1 "_law_draw" 2 F__law_draw []) : FnOk P w K mg base (L2.CX P w) 2 f fd [(PySem.Str.ofString "_law_deck_here")] (spD K mg 1 F__law_letter) :=
  fn_dn (k := 1) (ks := [0]) (g := G__law_letter) (N := sc__law_letterN) (ps := [(PySem.Str.ofString "_law_deck_here")]) F sc__law_letter 1 1 rfl rfl (fun cdv A outer s H E hr tk hp => by
    have hu := hr.units
    have hu5 := hr.units5
    exact (ss_cons (s_if (c_cmp (o_eq hu) n_eq (p_v (d_call c__law_draw hr tk (pa_c (p_b (pv 0)) (pa_c (p_v d_int) pa_n)))) (p_v d_int) (nomark _))
    (ss_one (s_ret (d_ix (ix_any hu) n_ix (p_v d_str) (p_v (d_call c__law_draw hr tk (pa_c (p_b (pv 0)) (pa_c (p_v d_int) pa_n)))) (fun _ _ => rfl))))
    ss_nil)
  (ss_one (s_ret (d_ix (ix_any hu) n_ix (p_v d_str) (p_v (d_call c__law_draw hr tk (pa_c (p_b (pv 0)) (pa_c (p_v d_int) pa_n)))) (fun _ _ => rfl))))))
set_option maxHeartbeats 4000000 in
theorem ok__law_text {f : Addr} {fd : FuncData} (F : Fun K "_law_text" "_law_text" s__law_text f fd) (c__law_draw : Cl P w K mg base 1 "_law_draw" 2 F__law_draw []) (c__law_letter : Cl P w K mg base 2 "_law_letter" 1 F__law_letter []) (m_range : mg "range" = none) : FnOk P w K mg base (L2.CX P w) 3 f fd [(PySem.Str.ofString "_law_deck_here"), (PySem.Str.ofString "_law_most")] (spD K mg 2 F__law_text) :=
  fn_dn (k := 2) (ks := [0, 1]) (g := G__law_text) (N := sc__law_textN) (ps := [(PySem.Str.ofString "_law_deck_here"), (PySem.Str.ofString "_law_most")]) F sc__law_text 2 4 rfl rfl (fun cdv A outer s H E hr tk hp => by
    have hu := hr.units
    have hu5 := hr.units5
    exact (ss_cons (s_set (i := 2) sc__law_text.nd rfl (Or.inl rfl) (d_call c__law_draw hr tk (pa_c (p_b (pv 0)) (pa_c (p_v (d_op o_add n_add (p_b (pv 1)) (p_v d_int))) pa_n))))
  (ss_one (s_ret (d_m1 PySem.F.slot_str_join PySem.F.type_str_join mt_join n_join (p_v d_str) (p_v (d_comp (own := [(PySem.Str.ofString "_law_k", 3)]) rfl sc__law_text.nd (i_rng1 rfl m_range (pa_c (p_b (pv 2)) pa_n)) (blkOk_by (N := sc__law_textN) (sc := defScope s__law_text) (by decide +kernel)) (fun _ _ _ _ _ => (pg_name (i := 3) sc__law_text.nd rfl (Or.inl rfl))) (fun _ _ _ _ _ => pts_y) (fun _ _ _ _ _ => (d_call c__law_letter hr takes0 (pa_c (p_b (pv 0)) pa_n))) (by decide))))))))
set_option maxHeartbeats 4000000 in
theorem ok__law_names {f : Addr} {fd : FuncData} (F : Fun K "_law_names" "_law_names" s__law_names f fd) (c__law_letter : Cl P w K mg base 2 "_law_letter" 1 F__law_letter []) (c__law_text : Cl P w K mg base 3 "_law_text" 2 F__law_text []) (m_int : mg "int" = none) (m_range : mg "range" = none) : FnOk P w K mg base (L2.CX P w) 4 f fd [(PySem.Str.ofString "_law_deck_here"), (PySem.Str.ofString "_law_count"), (PySem.Str.ofString "_law_barred")] (spD K mg 3 F__law_names) :=
  fn_dn (k := 3) (ks := [0, 1, 2]) (g := G__law_names) (N := sc__law_namesN) (ps := [(PySem.Str.ofString "_law_deck_here"), (PySem.Str.ofString "_law_count"), (PySem.Str.ofString "_law_barred")]) F sc__law_names 3 7 rfl rfl (fun cdv A outer s H E hr tk hp => by
    have hu := hr.units
    have hu5 := hr.units5
    exact (ss_cons (s_set (i := 3) sc__law_names.nd rfl (Or.inl rfl) (d_lst is_n))
  (ss_cons (s_for hp rfl (i_rng1 rfl m_range (pa_c (p_b (pv 1)) pa_n)) (pg_name (i := 4) sc__law_names.nd rfl (Or.inl rfl))
    (ss_cons (s_set (i := 5) sc__law_names.nd rfl (Or.inl rfl) (d_op o_add n_add (p_v (d_call c__law_letter hr tk (pa_c (p_b (pv 0)) pa_n))) (p_v (d_call c__law_text hr tk (pa_c (p_b (pv 0)) (pa_c (p_v d_int) pa_n))))))
  (ss_cons (s_for hp rfl (i_rng1 rfl m_range (pa_c (p_v d_int) pa_n)) (pg_name (i := 6) sc__law_names.nd rfl (Or.inl rfl))
    (ss_cons (s_if (c_w (w_and (c_cmp (o_notin hu5) n_notin (p_b (pv 5)) (p_b (pv 3)) (by rfl)) (w_one (c_cmp (o_notin hu5) n_notin (p_b (pv 5)) (p_b (pv 2)) (by rfl)))))
    (ss_one s_brk)
    ss_nil)
  (ss_one (s_set (i := 5) sc__law_names.nd rfl (Or.inl rfl) (d_op o_add n_add (p_b (pv 5)) (p_v (d_ix (ix_any hu) n_ix (p_v d_str) (p_v (d_op op_modN n_mod (p_v (d_ct call_int12 n_int rfl m_int bt_int (pa_c (p_v (d_op o_add n_add (p_v (d_op op_mul n_mul (p_b (pv 4)) (p_v d_int))) (p_b (pv 6)))) pa_n))) (p_v d_int))) (fun _ _ => rfl))))))) (by decide))
  (ss_one (s_drop (d_mut1 (pv 3) PySem.F.slot_list_append PySem.F.type_list_append mt_append u_app (d_var (pv 5))))))) (by decide))
  (ss_one (s_ret (d_move (pv 3)))))))
set_option maxHeartbeats 4000000 in
theorem ok__law_pattern {f : Addr} {fd : FuncData} (F : Fun K "_law_pattern" "_law_pattern" s__law_pattern f fd) (c__law_draw : Cl P w K mg base 1 "_law_draw" 2 F__law_draw []) (c__law_letter : Cl P w K mg base 2 "_law_letter" 1 F__law_letter []) (m_range : mg "range" = none) : FnOk P w K mg base (L2.CX P w) 3 f fd [(PySem.Str.ofString "_law_deck_here")] (spD K mg 1 F__law_pattern) :=
  fn_dn (k := 2) (ks := [0]) (g := G__law_pattern) (N := sc__law_patternN) (ps := [(PySem.Str.ofString "_law_deck_here")]) F sc__law_pattern 1 4 rfl rfl (fun cdv A outer s H E hr tk hp => by
    have hu := hr.units
    have hu5 := hr.units5
    exact (ss_cons (s_set (i := 1) sc__law_pattern.nd rfl (Or.inl rfl) d_str)
  (ss_cons (s_for hp rfl (i_rng1 rfl m_range (pa_c (p_v (d_call c__law_draw hr tk (pa_c (p_b (pv 0)) (pa_c (p_v d_int) pa_n)))) pa_n)) (pg_name (i := 2) sc__law_pattern.nd rfl (Or.inl rfl))
    (ss_cons (s_set (i := 3) sc__law_pattern.nd rfl (Or.inl rfl) (d_call c__law_draw hr tk (pa_c (p_b (pv 0)) (pa_c (p_v d_int) pa_n))))
  (ss_one (s_if (c_cmp (o_eq hu) n_eq (p_b (pv 3)) (p_v d_int) (nomark _))
    (ss_one (s_set (i := 1) sc__law_pattern.nd rfl (Or.inl rfl) (d_op o_add n_add (p_b (pv 1)) (p_v d_str))))
    (ss_one (s_if (c_w (w_and (c_cmp (o_eq hu) n_eq (p_b (pv 3)) (p_v d_int) (nomark _)) (w_one (c_cmp (o_ltX hu) n_ltX (p_v (d_m1 PySem.F.slot_str_count PySem.F.type_str_count mt_count n_count (p_b (pv 1)) (p_v d_str))) (p_v d_int) (nomark _)))))
    (ss_one (s_set (i := 1) sc__law_pattern.nd rfl (Or.inl rfl) (d_op o_add n_add (p_b (pv 1)) (p_v d_str))))
    (ss_one (s_set (i := 1) sc__law_pattern.nd rfl (Or.inl rfl) (d_op o_add n_add (p_b (pv 1)) (p_v (d_call c__law_letter hr tk (pa_c (p_b (pv 0)) pa_n))))))))))) (by decide))
  (ss_one (s_ret (d_move (pv 1)))))))
set_option maxHeartbeats 8000000 in
theorem ok__law_part {a__law_part : Addr} {d__law_part : FuncData} (F__law_part : Fun K "_law_part" "_law_part" s__law_part a__law_part d__law_part) (hm__law_part : mg "_law_part" = some (.ref a__law_part)) (hk__law_part : PySem.W.keepIn K (.ref a__law_part) = true) (c__law_draw : Cl P w K mg base 1 "_law_draw" 2 F__law_draw []) (c__law_pattern : Cl P w K mg base 3 "_law_pattern" 1 F__law_pattern []) (m_len : mg "len" = none) (m_min : mg "min" = none) (m_range : mg "range" = none) (m_tuple : mg "tuple" = none) : ∀ n : Nat, FnOk P w K mg base (L2.CX P w) (4 + n) a__law_part d__law_part [(PySem.Str.ofString "_law_deck_here"), (PySem.Str.ofString "_law_names_here"), (PySem.Str.ofString "_law_registers"), (PySem.Str.ofString "_law_depth")] (spD K mg 4 (Lw.F__law_part n))
  | 0 => fn_none rfl
  | n + 1 => by
    have ih := ok__law_part F__law_part hm__law_part hk__law_part c__law_draw c__law_pattern m_len m_min m_range m_tuple n
    have c__law_part : Cl P w K mg base (4 + n) "_law_part" 4 (Lw.F__law_part n) [] := cl_mk (ih) hm__law_part hk__law_part (F__law_part.binds fun _ _ _ _ _ _ us hl => match us, hl with | [_, _, _, _], _ => rfl)
    exact fn_dn (k := 4 + n) (ks := [0, 1, 2, 3]) (g := G__law_part (Lw.F__law_part n)) (N := sc__law_partN) (ps := [(PySem.Str.ofString "_law_deck_here"), (PySem.Str.ofString "_law_names_here"), (PySem.Str.ofString "_law_registers"), (PySem.Str.ofString "_law_depth")]) F__law_part sc__law_part 4 8 rfl rfl (fun cdv A outer s H E hr tk hp => by
      have hu := hr.units
      have hu5 := hr.units5
      exact (ss_cons (s_set (i := 4) sc__law_part.nd rfl (Or.inl rfl) (d_call (hk := by omega) c__law_draw hr tk (pa_c (p_b (pv 0)) (pa_c (p_v d_int) pa_n))))
  (ss_cons (s_if (c_w (w_and (c_cmp (o_ltX hu) n_ltX (p_b (pv 4)) (p_v d_int) (nomark _)) (w_one (c_cmp (o_gt hu) n_gt (p_b (pv 3)) (p_v d_int) (nomark _)))))
    (ss_cons (s_set (i := 5) sc__law_part.nd rfl (Or.inl rfl) (d_call (hk := by omega) c__law_draw hr tk (pa_c (p_b (pv 0)) (pa_c (p_v d_int) pa_n))))
  (ss_cons (s_if (c_cmp (o_eq hu) n_eq (p_v (d_call (hk := by omega) c__law_draw hr tk (pa_c (p_b (pv 0)) (pa_c (p_v d_int) pa_n)))) (p_v d_int) (nomark _))
    (ss_one (s_set (i := 5) sc__law_part.nd rfl (Or.inl rfl) (d_op o_add n_add (p_v d_int) (p_v (d_call (hk := by omega) c__law_draw hr tk (pa_c (p_b (pv 0)) (pa_c (p_v d_int) pa_n)))))))
    ss_nil)
  (ss_cons (s_set (i := 5) sc__law_part.nd rfl (Or.inl rfl) (d_cb (call_min2 rfl) n_min2 rfl m_min bt_min (pa_c (p_b (pv 5)) (pa_c (p_v (d_ix (ix_any hu) n_ix (p_b (pv 0)) (p_v d_int) (fun _ _ => rfl))) pa_n))))
  (ss_cons (s_setIx (pv 0) d_int (d_op op_sub n_sub (p_v (d_ix (ix_any hu) n_ix (p_b (pv 0)) (p_v d_int) (fun _ _ => rfl))) (p_b (pv 5))))
  (ss_cons (s_setLc (i := 6) (own := [(PySem.Str.ofString "_law_k", 7)]) rfl sc__law_part.nd rfl rfl (sw_true rfl rfl rfl (by decide +kernel)) (i_rng1 rfl m_range (pa_c (p_b (pv 5)) pa_n)) (blkOk_by (N := sc__law_partN) (sc := defScope s__law_part) (by decide +kernel)) (fun _ _ _ _ _ => (pg_name (i := 7) sc__law_part.nd rfl (Or.inl rfl))) (fun _ _ _ _ _ => pts_y) (fun _ _ _ _ _ => (d_call (hk := by omega) c__law_part hr takes0 (pa_c (p_b (pv 0)) (pa_c (p_b (pv 1)) (pa_c (p_b (pv 2)) (pa_c (p_v (d_op op_sub n_sub (p_b (pv 3)) (p_v d_int))) pa_n)))))) (by decide))
  (ss_cons (s_if (c_w (w_and (c_cmp (o_gt hu) n_gt (p_b (pv 5)) (p_v d_int) (nomark _)) (w_and (c_cmp (o_gt hu) n_gt (p_v (d_ix (ix_any hu) n_ix (p_b (pv 0)) (p_v d_int) (fun _ _ => rfl))) (p_v d_int) (nomark _)) (w_and (c_cmp (o_ltX hu) n_ltX (p_v (d_cb call_len n_len rfl m_len bt_len (pa_c (p_v (d_ix (ix_any hu) n_ix (p_b (pv 6)) (p_v d_int) (fun _ _ => rfl))) pa_n))) (p_v d_int) (nomark _)) (w_one (c_cmp (o_in hu5) n_in (p_v (d_ix (ix_any hu) n_ix (p_v (d_ix (ix_any hu) n_ix (p_b (pv 6)) (p_v d_int) (fun _ _ => rfl))) (p_v d_int) (fun _ _ => rfl))) (p_v (d_lst (hn := by simp) (is_c d_str (is_c d_str (is_c d_str is_n))))) (by rfl)))))))
    (ss_cons (s_setIx (pv 0) d_int (d_op op_sub n_sub (p_v (d_ix (ix_any hu) n_ix (p_b (pv 0)) (p_v d_int) (fun _ _ => rfl))) (p_v d_int)))
  (ss_one (s_drop (d_mut1 (pv 6) PySem.F.slot_list_append PySem.F.type_list_append mt_append u_app (d_ix (ix_any hu) n_ix (p_b (pv 6)) (p_v d_int) (fun _ _ => rfl))))))
    ss_nil)
  (ss_one (s_ret (d_op o_add n_add (p_v (d_tup (hn := by simp) (is_c (d_ix (ix_any hu) n_ix (p_v (d_lst (hn := by simp) (is_c d_str (is_c d_str is_n)))) (p_v (d_call (hk := by omega) c__law_draw hr tk (pa_c (p_b (pv 0)) (pa_c (p_v d_int) pa_n)))) (fun _ _ => rfl)) is_n))) (p_v (d_ct call_tuple_of n_tuple rfl m_tuple bt_tuple (pa_c (p_b (pv 6)) pa_n))))))))))))
    ss_nil)
  (ss_cons (s_if (c_w (w_and (c_cmp (o_eq hu) n_eq (p_b (pv 4)) (p_v d_int) (nomark _)) (w_and (c_cmp (o_gt hu) n_gt (p_b (pv 3)) (p_v d_int) (nomark _)) (w_one (c_cmp (o_gt hu) n_gt (p_v (d_ix (ix_any hu) n_ix (p_b (pv 0)) (p_v d_int) (fun _ _ => rfl))) (p_v d_int) (nomark _))))))
    (ss_cons (s_setIx (pv 0) d_int (d_op op_sub n_sub (p_v (d_ix (ix_any hu) n_ix (p_b (pv 0)) (p_v d_int) (fun _ _ => rfl))) (p_v d_int)))
  (ss_one (s_ret (d_tup (hn := by simp) (is_c d_str (is_c (d_call (hk := by omega) c__law_part hr tk (pa_c (p_b (pv 0)) (pa_c (p_b (pv 1)) (pa_c (p_b (pv 2)) (pa_c (p_v (d_op op_sub n_sub (p_b (pv 3)) (p_v d_int))) pa_n))))) is_n))))))
    ss_nil)
  (ss_cons (s_if (c_cmp (o_ltX hu) n_ltX (p_b (pv 4)) (p_v d_int) (nomark _))
    (ss_one (s_ret (d_tup (hn := by simp) (is_c d_str (is_c (d_ix (ix_any hu) n_ix (p_b (pv 1)) (p_v (d_call (hk := by omega) c__law_draw hr tk (pa_c (p_b (pv 0)) (pa_c (p_v (d_cb call_len n_len rfl m_len bt_len (pa_c (p_b (pv 1)) pa_n))) pa_n)))) (fun _ _ => rfl)) (is_c (d_call (hk := by omega) c__law_pattern hr tk (pa_c (p_b (pv 0)) pa_n)) is_n))))))
    ss_nil)
  (ss_cons (s_if (c_cmp (o_eq hu) n_eq (p_b (pv 4)) (p_v d_int) (nomark _))
    (ss_one (s_ret (d_tup (hn := by simp) (is_c d_str (is_c (d_ix (ix_any hu) n_ix (p_b (pv 1)) (p_v (d_call (hk := by omega) c__law_draw hr tk (pa_c (p_b (pv 0)) (pa_c (p_v (d_cb call_len n_len rfl m_len bt_len (pa_c (p_b (pv 1)) pa_n))) pa_n)))) (fun _ _ => rfl)) (is_c (d_ix (ix_any hu) n_ix (p_b (pv 1)) (p_v (d_call (hk := by omega) c__law_draw hr tk (pa_c (p_b (pv 0)) (pa_c (p_v (d_cb call_len n_len rfl m_len bt_len (pa_c (p_b (pv 1)) pa_n))) pa_n)))) (fun _ _ => rfl)) is_n))))))
    ss_nil)
  (ss_cons (s_if (c_w (w_and (c_cmp (o_eq hu) n_eq (p_b (pv 4)) (p_v d_int) (nomark _)) (w_one (c_cmp (o_gt hu) n_gt (p_v (d_cb call_len n_len rfl m_len bt_len (pa_c (p_b (pv 2)) pa_n))) (p_v d_int) (nomark _)))))
    (ss_one (s_ret (d_tup (hn := by simp) (is_c d_str (is_c (d_ix (ix_any hu) n_ix (p_b (pv 2)) (p_v (d_call (hk := by omega) c__law_draw hr tk (pa_c (p_b (pv 0)) (pa_c (p_v (d_cb call_len n_len rfl m_len bt_len (pa_c (p_b (pv 2)) pa_n))) pa_n)))) (fun _ _ => rfl)) is_n)))))
    ss_nil)
  (ss_one (s_ret (d_tup (hn := by simp) (is_c (d_ix (ix_any hu) n_ix (p_v (d_lst (hn := by simp) (is_c d_str (is_c d_str is_n)))) (p_v (d_call (hk := by omega) c__law_draw hr tk (pa_c (p_b (pv 0)) (pa_c (p_v d_int) pa_n)))) (fun _ _ => rfl)) is_n)))))))))))
set_option maxHeartbeats 4000000 in
theorem ok__law_condition {f : Addr} {fd : FuncData} (F : Fun K "_law_condition" "_law_condition" s__law_condition f fd) (c__law_part : Cl P w K mg base 44 "_law_part" 4 (Lw.F__law_part 40) []) : FnOk P w K mg base (L2.CX P w) 45 f fd [(PySem.Str.ofString "_law_deck_here"), (PySem.Str.ofString "_law_names_here"), (PySem.Str.ofString "_law_registers"), (PySem.Str.ofString "_law_depth")] (spD K mg 4 F__law_condition) :=
  fn_dn (k := 44) (ks := [0, 1, 2, 3]) (g := G__law_condition) (N := sc__law_conditionN) (ps := [(PySem.Str.ofString "_law_deck_here"), (PySem.Str.ofString "_law_names_here"), (PySem.Str.ofString "_law_registers"), (PySem.Str.ofString "_law_depth")]) F sc__law_condition 4 4 rfl rfl (fun cdv A outer s H E hr tk hp => by
    have hu := hr.units
    have hu5 := hr.units5
    exact (ss_cons (s_setIx (pv 0) d_int d_int)
  (ss_one (s_ret (d_call c__law_part hr tk (pa_c (p_b (pv 0)) (pa_c (p_b (pv 1)) (pa_c (p_b (pv 2)) (pa_c (p_b (pv 3)) pa_n)))))))))
set_option maxHeartbeats 8000000 in
theorem ok_normal {a_normal : Addr} {d_normal : FuncData} (F_normal : Fun K "normal" "normal" s_normal a_normal d_normal) (hm_normal : mg "normal" = some (.ref a_normal)) (hk_normal : PySem.W.keepIn K (.ref a_normal) = true) {a_joined : Addr} {d_joined : FuncData} (F_joined : Fun K "joined" "joined" s_joined a_joined d_joined) (hm_joined : mg "joined" = some (.ref a_joined)) (hk_joined : PySem.W.keepIn K (.ref a_joined) = true) {a_members_of : Addr} {d_members_of : FuncData} (F_members_of : Fun K "members_of" "members_of" s_members_of a_members_of d_members_of) (hm_members_of : mg "members_of" = some (.ref a_members_of)) (hk_members_of : PySem.W.keepIn K (.ref a_members_of) = true) (g_ALWAYS : TupC K mg "ALWAYS" [D.str (PySem.Str.ofString "always")]) (g_NEVER : TupC K mg "NEVER" [D.str (PySem.Str.ofString "never")]) (m_len : mg "len" = none) (m_tuple : mg "tuple" = none) : ∀ n : Nat, FnOk P w K mg base (L2.CX P w) (1 + n) a_normal d_normal [(PySem.Str.ofString "condition")] (spD K mg 1 (Lw.F_normal n)) ∧ FnOk P w K mg base (L2.CX P w) (1 + n) a_joined d_joined [(PySem.Str.ofString "word"), (PySem.Str.ofString "parts"), (PySem.Str.ofString "neutral"), (PySem.Str.ofString "final")] (spD K mg 4 (Lw.F_joined n)) ∧ FnOk P w K mg base (L2.CX P w) (1 + n) a_members_of d_members_of [(PySem.Str.ofString "word"), (PySem.Str.ofString "parts")] (spD K mg 2 (Lw.F_members_of n))
  | 0 => ⟨fn_none rfl, fn_none rfl, fn_none rfl⟩
  | n + 1 => by
    have ih := ok_normal F_normal hm_normal hk_normal F_joined hm_joined hk_joined F_members_of hm_members_of hk_members_of g_ALWAYS g_NEVER m_len m_tuple n
    have c_normal : Cl P w K mg base (1 + n) "normal" 1 (Lw.F_normal n) [] := cl_mk (ih.1) hm_normal hk_normal (F_normal.binds fun _ _ _ _ _ _ us hl => match us, hl with | [_], _ => rfl)
    have c_joined : Cl P w K mg base (1 + n) "joined" 4 (Lw.F_joined n) [] := cl_mk (ih.2.1) hm_joined hk_joined (F_joined.binds fun _ _ _ _ _ _ us hl => match us, hl with | [_, _, _, _], _ => rfl)
    have c_members_of : Cl P w K mg base (1 + n) "members_of" 2 (Lw.F_members_of n) [] := cl_mk (ih.2.2) hm_members_of hk_members_of (F_members_of.binds fun _ _ _ _ _ _ us hl => match us, hl with | [_, _], _ => rfl)
    exact ⟨fn_dn (k := 1 + n) (ks := [0]) (g := G_normal (Lw.F_normal n) (Lw.F_joined n) (Lw.F_members_of n)) (N := sc_normalN) (ps := [(PySem.Str.ofString "condition")]) F_normal sc_normal 1 3 rfl rfl (fun cdv A outer s H E hr tk hp => by
      have hu := hr.units
      have hu5 := hr.units5
      exact (ss_cons (s_set (i := 1) sc_normal.nd rfl (Or.inl rfl) (d_ix (ix_any hu) n_ix (p_b (pv 0)) (p_v d_int) (fun _ _ => rfl)))
  (ss_cons (s_if (c_cmp (o_eq hu) n_eq (p_b (pv 1)) (p_v d_str) (nomark _))
    (ss_one (s_ret (d_call (hk := by omega) c_joined hr tk (pa_c (p_b (pv 1)) (pa_c (p_v (d_sl10 (p_b (pv 0)) (p_v d_int))) (pa_c (p_v (d_gt (by rfl) g_ALWAYS)) (pa_c (p_v (d_gt (by rfl) g_NEVER)) pa_n)))))))
    ss_nil)
  (ss_cons (s_if (c_cmp (o_eq hu) n_eq (p_b (pv 1)) (p_v d_str) (nomark _))
    (ss_one (s_ret (d_call (hk := by omega) c_joined hr tk (pa_c (p_b (pv 1)) (pa_c (p_v (d_sl10 (p_b (pv 0)) (p_v d_int))) (pa_c (p_v (d_gt (by rfl) g_NEVER)) (pa_c (p_v (d_gt (by rfl) g_ALWAYS)) pa_n)))))))
    ss_nil)
  (ss_cons (s_if (c_cmp (o_ne hu) n_ne (p_b (pv 1)) (p_v d_str) (nomark _))
    (ss_one (s_ret (d_var (pv 0))))
    ss_nil)
  (ss_cons (s_set (i := 2) sc_normal.nd rfl (Or.inl rfl) (d_call (hk := by omega) c_normal hr tk (pa_c (p_v (d_ix (ix_any hu) n_ix (p_b (pv 0)) (p_v d_int) (fun _ _ => rfl))) pa_n)))
  (ss_cons (s_if (c_cmp (o_eq hu) n_eq (p_b (pv 2)) (p_v (d_gt (by rfl) g_ALWAYS)) (nomark _))
    (ss_one (s_ret (d_gt (by rfl) g_NEVER)))
    ss_nil)
  (ss_cons (s_if (c_cmp (o_eq hu) n_eq (p_b (pv 2)) (p_v (d_gt (by rfl) g_NEVER)) (nomark _))
    (ss_one (s_ret (d_gt (by rfl) g_ALWAYS)))
    ss_nil)
  (ss_cons (s_if (c_cmp (o_eq hu) n_eq (p_v (d_ix (ix_any hu) n_ix (p_b (pv 2)) (p_v d_int) (fun _ _ => rfl))) (p_v d_str) (nomark _))
    (ss_one (s_ret (d_ix (ix_any hu) n_ix (p_b (pv 2)) (p_v d_int) (fun _ _ => rfl))))
    ss_nil)
  (ss_one (s_ret (d_tup (hn := by simp) (is_c d_str (is_c (d_var (pv 2)) is_n)))))))))))))),
      fn_dn (k := 1 + n) (ks := [0, 1, 2, 3]) (g := G_joined (Lw.F_normal n) (Lw.F_joined n) (Lw.F_members_of n)) (N := sc_joinedN) (ps := [(PySem.Str.ofString "word"), (PySem.Str.ofString "parts"), (PySem.Str.ofString "neutral"), (PySem.Str.ofString "final")]) F_joined sc_joined 4 6 rfl rfl (fun cdv A outer s H E hr tk hp => by
      have hu := hr.units
      have hu5 := hr.units5
      exact (ss_cons (s_set (i := 4) sc_joined.nd rfl (Or.inl rfl) (d_call (hk := by omega) c_members_of hr tk (pa_c (p_b (pv 0)) (pa_c (p_b (pv 1)) pa_n))))
  (ss_cons (s_if (c_cmp (o_in hu5) n_in (p_b (pv 3)) (p_b (pv 4)) (by rfl))
    (ss_one (s_ret (d_var (pv 3))))
    ss_nil)
  (ss_cons (s_setLc (i := 4) (own := [(PySem.Str.ofString "member", 5)]) rfl sc_joined.nd rfl rfl (sw_true rfl rfl rfl (by decide +kernel)) (i_seq (d_var (pv 4))) (blkOk_by (N := sc_joinedN) (sc := defScope s_joined) (by decide +kernel)) (fun _ _ _ _ _ => (pg_name (i := 5) sc_joined.nd rfl (Or.inl rfl))) (fun _ _ _ _ _ => (pts_1 (c_cmp (o_ne hu) n_ne (p_b (pv 5)) (p_b (pv 2)) (nomark _)))) (fun _ _ _ _ _ => (d_var (pv 5))) (by decide))
  (ss_cons (s_if (c_cmp (o_eq hu) n_eq (p_v (d_cb call_len n_len rfl m_len bt_len (pa_c (p_b (pv 4)) pa_n))) (p_v d_int) (nomark _))
    (ss_one (s_ret (d_var (pv 2))))
    ss_nil)
  (ss_cons (s_if (c_cmp (o_eq hu) n_eq (p_v (d_cb call_len n_len rfl m_len bt_len (pa_c (p_b (pv 4)) pa_n))) (p_v d_int) (nomark _))
    (ss_one (s_ret (d_ix (ix_any hu) n_ix (p_b (pv 4)) (p_v d_int) (fun _ _ => rfl))))
    ss_nil)
  (ss_one (s_ret (d_op o_add n_add (p_v (d_tup (hn := by simp) (is_c (d_var (pv 0)) is_n))) (p_v (d_ct call_tuple_of n_tuple rfl m_tuple bt_tuple (pa_c (p_b (pv 4)) pa_n)))))))))))),
      fn_dn (k := 1 + n) (ks := [0, 1]) (g := G_members_of (Lw.F_normal n) (Lw.F_joined n) (Lw.F_members_of n)) (N := sc_members_ofN) (ps := [(PySem.Str.ofString "word"), (PySem.Str.ofString "parts")]) F_members_of sc_members_of 2 7 rfl rfl (fun cdv A outer s H E hr tk hp => by
      have hu := hr.units
      have hu5 := hr.units5
      exact (ss_cons (s_set (i := 2) sc_members_of.nd rfl (Or.inl rfl) (d_lst (hn := by simp) is_n))
  (ss_cons (s_for hp rfl (i_seq (d_var (pv 1))) (pg_name (i := 3) sc_members_of.nd rfl (Or.inl rfl))
    (ss_cons (s_set (i := 4) sc_members_of.nd rfl (Or.inl rfl) (d_call (hk := by omega) c_normal hr tk (pa_c (p_b (pv 3)) pa_n)))
  (ss_cons (s_set (i := 5) sc_members_of.nd rfl (Or.inl rfl) (d_tup (hn := by simp) (is_c (d_var (pv 4)) is_n)))
  (ss_cons (s_if (c_cmp (o_eq hu) n_eq (p_v (d_ix (ix_any hu) n_ix (p_b (pv 4)) (p_v d_int) (fun _ _ => rfl))) (p_b (pv 0)) (nomark _))
    (ss_one (s_set (i := 5) sc_members_of.nd rfl (Or.inl rfl) (d_sl10 (p_b (pv 4)) (p_v d_int))))
    ss_nil)
  (ss_one (s_for hp rfl (i_seq (d_var (pv 5))) (pg_name (i := 6) sc_members_of.nd rfl (Or.inl rfl))
    (ss_one (s_if (c_cmp (o_notin hu5) n_notin (p_b (pv 6)) (p_b (pv 2)) (by rfl))
    (ss_one (s_drop (d_mut1 (pv 2) PySem.F.slot_list_append PySem.F.type_list_append mt_append u_app (d_var (pv 6)))))
    ss_nil)) (by decide)))))) (by decide))
  (ss_one (s_ret (d_move (pv 2)))))))⟩
set_option maxHeartbeats 8000000 in
theorem ok__law_nodes {a__law_nodes : Addr} {d__law_nodes : FuncData} (F__law_nodes : Fun K "_law_nodes" "_law_nodes" s__law_nodes a__law_nodes d__law_nodes) (hm__law_nodes : mg "_law_nodes" = some (.ref a__law_nodes)) (hk__law_nodes : PySem.W.keepIn K (.ref a__law_nodes) = true)  : ∀ n : Nat, FnOk P w K mg base (L2.CX P w) (1 + n) a__law_nodes d__law_nodes [(PySem.Str.ofString "_law_condition_here")] (spD K mg 1 (Lw.F__law_nodes n))
  | 0 => fn_none rfl
  | n + 1 => by
    have ih := ok__law_nodes F__law_nodes hm__law_nodes hk__law_nodes  n
    have c__law_nodes : Cl P w K mg base (1 + n) "_law_nodes" 1 (Lw.F__law_nodes n) [] := cl_mk (ih) hm__law_nodes hk__law_nodes (F__law_nodes.binds fun _ _ _ _ _ _ us hl => match us, hl with | [_], _ => rfl)
    exact fn_dn (k := 1 + n) (ks := [0]) (g := G__law_nodes (Lw.F__law_nodes n)) (N := sc__law_nodesN) (ps := [(PySem.Str.ofString "_law_condition_here")]) F__law_nodes sc__law_nodes 1 3 rfl rfl (fun cdv A outer s H E hr tk hp => by
      have hu := hr.units
      have hu5 := hr.units5
      exact (ss_cons (s_set (i := 1) sc__law_nodes.nd rfl (Or.inl rfl) (d_lst (hn := by simp) (is_c (d_var (pv 0)) is_n)))
  (ss_cons (s_if (c_cmp (o_in hu5) n_in (p_v (d_ix (ix_any hu) n_ix (p_b (pv 0)) (p_v d_int) (fun _ _ => rfl))) (p_v (d_lst (hn := by simp) (is_c d_str (is_c d_str (is_c d_str is_n))))) (by rfl))
    (ss_one (s_for hp rfl (i_seq (d_sl10 (p_b (pv 0)) (p_v d_int))) (pg_name (i := 2) sc__law_nodes.nd rfl (Or.inl rfl))
    (ss_one (s_set (i := 1) sc__law_nodes.nd rfl (Or.inl rfl) (d_op o_add n_add (p_b (pv 1)) (p_v (d_call (hk := by omega) c__law_nodes hr tk (pa_c (p_b (pv 2)) pa_n)))))) (by decide)))
    ss_nil)
  (ss_one (s_ret (d_move (pv 1)))))))
set_option maxHeartbeats 4000000 in
theorem ok__law_value {f : Addr} {fd : FuncData} (F : Fun K "_law_value" "_law_value" s__law_value f fd) (c__law_draw : Cl P w K mg base 1 "_law_draw" 2 F__law_draw []) (c__law_text : Cl P w K mg base 3 "_law_text" 2 F__law_text []) (m_len : mg "len" = none) : FnOk P w K mg base (L2.CX P w) 4 f fd [(PySem.Str.ofString "_law_deck_here"), (PySem.Str.ofString "_law_earlier")] (spD K mg 2 F__law_value) :=
  fn_dn (k := 3) (ks := [0, 1]) (g := G__law_value) (N := sc__law_valueN) (ps := [(PySem.Str.ofString "_law_deck_here"), (PySem.Str.ofString "_law_earlier")]) F sc__law_value 2 3 rfl rfl (fun cdv A outer s H E hr tk hp => by
    have hu := hr.units
    have hu5 := hr.units5
    exact (ss_cons (s_set (i := 2) sc__law_value.nd rfl (Or.inl rfl) (d_call c__law_draw hr tk (pa_c (p_b (pv 0)) (pa_c (p_v d_int) pa_n))))
  (ss_cons (s_if (c_cmp (o_eq hu) n_eq (p_b (pv 2)) (p_v d_int) (nomark _))
    (ss_one (s_ret d_non))
    ss_nil)
  (ss_cons (s_if (c_cmp (o_eq hu) n_eq (p_b (pv 2)) (p_v d_int) (nomark _))
    (ss_one (s_ret (d_op op_sub n_sub (p_v (d_call c__law_draw hr tk (pa_c (p_b (pv 0)) (pa_c (p_v d_int) pa_n)))) (p_v d_int))))
    ss_nil)
  (ss_cons (s_if (c_cmp (o_eq hu) n_eq (p_b (pv 2)) (p_v d_int) (nomark _))
    (ss_one (s_ret (d_tup (is_c d_str (is_c (d_call c__law_draw hr tk (pa_c (p_b (pv 0)) (pa_c (p_v d_int) pa_n))) is_n)))))
    ss_nil)
  (ss_cons (s_if (c_w (w_and (c_cmp (o_eq hu) n_eq (p_b (pv 2)) (p_v d_int) (nomark _)) (w_one (c_cmp (o_gt hu) n_gt (p_v (d_cb call_len n_len rfl m_len bt_len (pa_c (p_b (pv 1)) pa_n))) (p_v d_int) (nomark _)))))
    (ss_one (s_ret (d_ix (ix_any hu) n_ix (p_b (pv 1)) (p_v (d_call c__law_draw hr tk (pa_c (p_b (pv 0)) (pa_c (p_v (d_cb call_len n_len rfl m_len bt_len (pa_c (p_b (pv 1)) pa_n))) pa_n)))) (fun _ _ => rfl))))
    ss_nil)
  (ss_one (s_ret (d_call c__law_text hr tk (pa_c (p_b (pv 0)) (pa_c (p_v d_int) pa_n)))))))))))
set_option maxHeartbeats 4000000 in
theorem ok__law_meaning {f : Addr} {fd : FuncData} (F : Fun K "_law_meaning" "_law_meaning" s__law_meaning f fd) (c__law_value : Cl P w K mg base 4 "_law_value" 2 F__law_value []) : FnOk P w K mg base (L2.CX P w) 5 f fd [(PySem.Str.ofString "_law_deck_here"), (PySem.Str.ofString "_law_names_here")] (spD K mg 2 F__law_meaning) :=
  fn_dn (k := 4) (ks := [0, 1]) (g := G__law_meaning) (N := sc__law_meaningN) (ps := [(PySem.Str.ofString "_law_deck_here"), (PySem.Str.ofString "_law_names_here")]) F sc__law_meaning 2 6 rfl rfl (fun cdv A outer s H E hr tk hp => by
    have hu := hr.units
    have hu5 := hr.units5
    exact (ss_cons (s_set (i := 2) sc__law_meaning.nd rfl (Or.inl rfl) d_dct0)
  (ss_cons (s_set (i := 3) sc__law_meaning.nd rfl (Or.inl rfl) (d_lst is_n))
  (ss_cons (s_for hp rfl (i_seq (d_var (pv 1))) (pg_name (i := 4) sc__law_meaning.nd rfl (Or.inl rfl))
    (ss_cons (s_set (i := 5) sc__law_meaning.nd rfl (Or.inl rfl) (d_call c__law_value hr tk (pa_c (p_b (pv 0)) (pa_c (p_b (pv 3)) pa_n))))
  (ss_cons (s_drop (d_mut1 (pv 3) PySem.F.slot_list_append PySem.F.type_list_append mt_append u_app (d_var (pv 5))))
  (ss_one (s_setK hu (pv 2) (d_var (pv 4)) (d_var (pv 5)))))) (by decide))
  (ss_one (s_ret (d_move (pv 2))))))))
set_option maxHeartbeats 8000000 in
theorem ok__law_is_condition {a__law_is_condition : Addr} {d__law_is_condition : FuncData} (F__law_is_condition : Fun K "_law_is_condition" "_law_is_condition" s__law_is_condition a__law_is_condition d__law_is_condition) (hm__law_is_condition : mg "_law_is_condition" = some (.ref a__law_is_condition)) (hk__law_is_condition : PySem.W.keepIn K (.ref a__law_is_condition) = true) (m_isinstance : mg "isinstance" = none) (m_len : mg "len" = none) (m_tuple : mg "tuple" = none) : ∀ n : Nat, FnOk P w K mg base (L2.CX P w) (1 + n) a__law_is_condition d__law_is_condition [(PySem.Str.ofString "_law_form"), (PySem.Str.ofString "_law_nodes_here"), (PySem.Str.ofString "_law_depth")] (spD K mg 3 (Lw.F__law_is_condition n))
  | 0 => fn_none rfl
  | n + 1 => by
    have ih := ok__law_is_condition F__law_is_condition hm__law_is_condition hk__law_is_condition m_isinstance m_len m_tuple n
    have c__law_is_condition : Cl P w K mg base (1 + n) "_law_is_condition" 3 (Lw.F__law_is_condition n) [] := cl_mk (ih) hm__law_is_condition hk__law_is_condition (F__law_is_condition.binds fun _ _ _ _ _ _ us hl => match us, hl with | [_, _, _], _ => rfl)
    exact fn_dn (k := 1 + n) (ks := [0, 1, 2]) (g := G__law_is_condition (Lw.F__law_is_condition n)) (N := sc__law_is_conditionN) (ps := [(PySem.Str.ofString "_law_form"), (PySem.Str.ofString "_law_nodes_here"), (PySem.Str.ofString "_law_depth")]) F__law_is_condition sc__law_is_condition 3 4 rfl rfl (fun cdv A outer s H E hr tk hp => by
      have hu := hr.units
      have hu5 := hr.units5
      exact (ss_cons (s_if (c_w (w_or (c_not (c_tst (d_isi rfl m_isinstance rfl m_tuple bt_tuple bt_isinstance (p_b (pv 0))))) (w_or (c_cmp (o_eq hu) n_eq (p_v (d_cb call_len n_len rfl m_len bt_len (pa_c (p_b (pv 0)) pa_n))) (p_v d_int) (nomark _)) (w_one (c_cmp (o_eq hu) n_eq (p_b (pv 2)) (p_v d_int) (nomark _))))))
    (ss_one (s_ret d_bl))
    ss_nil)
  (ss_cons (s_if (c_w (w_or (c_cmp (o_eq hu) n_eq (p_v (d_ix (ix_any hu) n_ix (p_b (pv 0)) (p_v d_int) (fun _ _ => rfl))) (p_v d_str) (nomark _)) (w_one (c_cmp (o_eq hu) n_eq (p_v (d_ix (ix_any hu) n_ix (p_b (pv 0)) (p_v d_int) (fun _ _ => rfl))) (p_v d_str) (nomark _)))))
    (ss_one (s_ret (d_cmp (o_eq hu) n_eq (p_v (d_cb call_len n_len rfl m_len bt_len (pa_c (p_b (pv 0)) pa_n))) (p_v d_int) (nomark _))))
    ss_nil)
  (ss_cons (s_if (c_w (w_and (c_cmp (o_eq hu) n_eq (p_v (d_ix (ix_any hu) n_ix (p_b (pv 0)) (p_v d_int) (fun _ _ => rfl))) (p_v d_str) (nomark _)) (w_one (c_cmp (o_ne hu) n_ne (p_v (d_cb call_len n_len rfl m_len bt_len (pa_c (p_b (pv 0)) pa_n))) (p_v d_int) (nomark _)))))
    (ss_one (s_ret d_bl))
    ss_nil)
  (ss_cons (s_if (c_cmp (o_in hu5) n_in (p_v (d_ix (ix_any hu) n_ix (p_b (pv 0)) (p_v d_int) (fun _ _ => rfl))) (p_v (d_lst (hn := by simp) (is_c d_str (is_c d_str (is_c d_str is_n))))) (by rfl))
    (ss_cons (s_for hp rfl (i_seq (d_sl10 (p_b (pv 0)) (p_v d_int))) (pg_name (i := 3) sc__law_is_condition.nd rfl (Or.inl rfl))
    (ss_one (s_if (c_not (c_tst (d_call (hk := by omega) c__law_is_condition hr tk (pa_c (p_b (pv 3)) (pa_c (p_b (pv 1)) (pa_c (p_v (d_op op_sub n_sub (p_b (pv 2)) (p_v d_int))) pa_n))))))
    (ss_one (s_ret d_bl))
    ss_nil)) (by decide))
  (ss_one (s_ret d_bl)))
    ss_nil)
  (ss_one (s_ret (d_cmp (o_in hu5) n_in (p_b (pv 0)) (p_b (pv 1)) (by rfl)))))))))
set_option maxHeartbeats 4000000 in
theorem ok__law_matches {f : Addr} {fd : FuncData} (F : Fun K "_law_matches" "_law_matches" s__law_matches f fd) (m_len : mg "len" = none) (m_range : mg "range" = none) : FnOk P w K mg base (L2.CX P w) 1 f fd [(PySem.Str.ofString "_law_pattern_here"), (PySem.Str.ofString "_law_text_here")] (spD K mg 2 F__law_matches) :=
  fn_dn (k := 0) (ks := [0, 1]) (g := G__law_matches) (N := sc__law_matchesN) (ps := [(PySem.Str.ofString "_law_pattern_here"), (PySem.Str.ofString "_law_text_here")]) F sc__law_matches 2 7 rfl rfl (fun cdv A outer s H E hr tk hp => by
    have hu := hr.units
    have hu5 := hr.units5
    exact (ss_cons (s_set (i := 2) sc__law_matches.nd rfl (Or.inl rfl) (d_lst (is_c d_int is_n)))
  (ss_cons (s_for hp rfl (i_seq (d_var (pv 0))) (pg_name (i := 3) sc__law_matches.nd rfl (Or.inl rfl))
    (ss_cons (s_set (i := 4) sc__law_matches.nd rfl (Or.inr rfl) (d_lst is_n))
  (ss_cons (s_for hp rfl (i_seq (d_var (pv 2))) (pg_name (i := 5) sc__law_matches.nd rfl (Or.inl rfl))
    (ss_one (s_if (c_cmp (o_eq hu) n_eq (p_b (pv 3)) (p_v d_str) (nomark _))
    (ss_one (s_set (i := 4) sc__law_matches.nd rfl (Or.inr rfl) (d_op o_add n_add (p_b (pv 4)) (p_v (d_comp (own := [(PySem.Str.ofString "_law_k", 6)]) rfl sc__law_matches.nd (i_rng2 rfl m_range (pa_c (p_b (pv 5)) (pa_c (p_v (d_op o_add n_add (p_v (d_cb call_len n_len rfl m_len bt_len (pa_c (p_b (pv 1)) pa_n))) (p_v d_int))) pa_n))) (blkOk_by (N := sc__law_matchesN) (sc := defScope s__law_matches) (by decide +kernel)) (fun _ _ _ _ _ => (pg_name (i := 6) sc__law_matches.nd rfl (Or.inl rfl))) (fun _ _ _ _ _ => (pts_1 (c_cmp (o_notin hu5) n_notin (p_b (pv 6)) (p_b (pv 4)) (by rfl)))) (fun _ _ _ _ _ => (d_var (pv 6))) (by decide))))))
    (ss_one (s_if (c_w (w_and (c_cmp (o_ltX hu) n_ltX (p_b (pv 5)) (p_v (d_cb call_len n_len rfl m_len bt_len (pa_c (p_b (pv 1)) pa_n))) (nomark _)) (w_and (c_w (w_or (c_cmp (o_eq hu) n_eq (p_b (pv 3)) (p_v d_str) (nomark _)) (w_one (c_cmp (o_eq hu) n_eq (p_v (d_ix (ix_any hu) n_ix (p_b (pv 1)) (p_b (pv 5)) (fun _ _ => rfl))) (p_b (pv 3)) (nomark _))))) (w_one (c_cmp (o_notin hu5) n_notin (p_v (d_op o_add n_add (p_b (pv 5)) (p_v d_int))) (p_b (pv 4)) (by rfl))))))
    (ss_one (s_drop (d_mut1 (pv 4) PySem.F.slot_list_append PySem.F.type_list_append mt_append u_app (d_op o_add n_add (p_b (pv 5)) (p_v d_int)))))
    ss_nil)))) (by decide))
  (ss_one (s_set (i := 2) sc__law_matches.nd rfl (Or.inl rfl) (d_var (pv 4)))))) (by decide))
  (ss_one (s_ret (d_cmp (o_in hu5) n_in (p_v (d_cb call_len n_len rfl m_len bt_len (pa_c (p_b (pv 1)) pa_n))) (p_b (pv 2)) (by rfl)))))))
set_option maxHeartbeats 8000000 in
theorem ok__law_holds {a__law_holds : Addr} {d__law_holds : FuncData} (F__law_holds : Fun K "_law_holds" "_law_holds" s__law_holds a__law_holds d__law_holds) (hm__law_holds : mg "_law_holds" = some (.ref a__law_holds)) (hk__law_holds : PySem.W.keepIn K (.ref a__law_holds) = true) (c__law_matches : Cl P w K mg base 1 "_law_matches" 2 F__law_matches []) (m_isinstance : mg "isinstance" = none) (m_len : mg "len" = none) (m_repr : mg "repr" = none) (m_str : mg "str" = none) : ∀ n : Nat, FnG P w K mg base (L2.CX P w) (2 + n) a__law_holds d__law_holds [(PySem.Str.ofString "_law_condition_here"), (PySem.Str.ofString "_law_meaning_here")] (spD K mg 2 (Lw.F__law_holds n))
  | 0 => fnG_none rfl
  | n + 1 => by
    have ih := ok__law_holds F__law_holds hm__law_holds hk__law_holds c__law_matches m_isinstance m_len m_repr m_str n
    have c__law_holds : ClG P w K mg base (2 + n) "_law_holds" 2 (Lw.F__law_holds n) [] := clG_mk (ih) hm__law_holds hk__law_holds (F__law_holds.binds fun _ _ _ _ _ _ us hl => match us, hl with | [_, _], _ => rfl)
    exact fn_dnG (k := 2 + n) (ks := [0, 1]) (g := G__law_holds (Lw.F__law_holds n)) (N := sc__law_holdsN) (ps := [(PySem.Str.ofString "_law_condition_here"), (PySem.Str.ofString "_law_meaning_here")]) F__law_holds sc__law_holds 2 6 rfl rfl (fun cdv A outer s H E hgu hr tk hp => by
      have hu := hr.units
      have hu5 := hr.units5
      exact (ss_cons (s_set (i := 2) sc__law_holds.nd rfl (Or.inl rfl) (d_ix (ix_any hu) n_ix (p_b (pv 0)) (p_v d_int) (fun _ _ => rfl)))
  (ss_cons (s_if (c_w (w_or (c_cmp (o_eq hu) n_eq (p_b (pv 2)) (p_v d_str) (nomark _)) (w_one (c_cmp (o_eq hu) n_eq (p_b (pv 2)) (p_v d_str) (nomark _)))))
    (ss_one (s_ret (d_cmp (o_eq hu) n_eq (p_b (pv 2)) (p_v d_str) (nomark _))))
    ss_nil)
  (ss_cons (s_if (c_cmp (o_eq hu) n_eq (p_b (pv 2)) (p_v d_str) (nomark _))
    (ss_one (s_ret (d_not (d_callG (hk := by omega) c__law_holds hgu hr tk (pa_c (p_v (d_ix (ix_any hu) n_ix (p_b (pv 0)) (p_v d_int) (fun _ _ => rfl))) (pa_c (p_b (pv 1)) pa_n))))))
    ss_nil)
  (ss_cons (s_if (c_w (w_or (c_cmp (o_eq hu) n_eq (p_b (pv 2)) (p_v d_str) (nomark _)) (w_one (c_cmp (o_eq hu) n_eq (p_b (pv 2)) (p_v d_str) (nomark _)))))
    (ss_cons (s_set (i := 3) sc__law_holds.nd rfl (Or.inl rfl) d_int)
  (ss_cons (s_for hp rfl (i_seq (d_sl10 (p_b (pv 0)) (p_v d_int))) (pg_name (i := 4) sc__law_holds.nd rfl (Or.inl rfl))
    (ss_one (s_if (c_tst (d_callG (hk := by omega) c__law_holds hgu hr tk (pa_c (p_b (pv 4)) (pa_c (p_b (pv 1)) pa_n))))
    (ss_one (s_set (i := 3) sc__law_holds.nd rfl (Or.inl rfl) (d_op o_add n_add (p_b (pv 3)) (p_v d_int))))
    ss_nil)) (by decide))
  (ss_cons (s_if (c_cmp (o_eq hu) n_eq (p_b (pv 2)) (p_v d_str) (nomark _))
    (ss_one (s_ret (d_cmp (o_eq hu) n_eq (p_b (pv 3)) (p_v (d_op op_sub n_sub (p_v (d_cb call_len n_len rfl m_len bt_len (pa_c (p_b (pv 0)) pa_n))) (p_v d_int))) (nomark _))))
    ss_nil)
  (ss_one (s_ret (d_cmp (o_gt hu) n_gt (p_b (pv 3)) (p_v d_int) (nomark _)))))))
    ss_nil)
  (ss_cons (s_set (i := 5) sc__law_holds.nd rfl (Or.inl rfl) (d_ix (ix_any hu) n_ix (p_b (pv 1)) (p_v (d_ix (ix_any hu) n_ix (p_b (pv 0)) (p_v d_int) (fun _ _ => rfl))) (fun _ _ => rfl)))
  (ss_cons (s_if (c_cmp (o_eq hu) n_eq (p_b (pv 2)) (p_v d_str) (nomark _))
    (ss_one (s_ret (d_and (d_isi rfl m_isinstance rfl m_str bt_str bt_isinstance (p_b (pv 5))) (d_one (d_call (hk := by omega) c__law_matches hr tk (pa_c (p_v (d_ix (ix_any hu) n_ix (p_b (pv 0)) (p_v d_int) (fun _ _ => rfl))) (pa_c (p_b (pv 5)) pa_n)))))))
    ss_nil)
  (ss_cons (s_if (c_cmp (o_eq hu) n_eq (p_b (pv 2)) (p_v d_str) (nomark _))
    (ss_one (s_ret (d_cmp o_is n_is (p_b (pv 5)) (p_v d_non) (nomark _))))
    ss_nil)
  (ss_cons (s_if (c_w (w_or (c_cmp o_is n_is (p_b (pv 5)) (p_v d_non) (nomark _)) (w_one (c_cmp o_is n_is (p_v (d_ix (ix_any hu) n_ix (p_b (pv 1)) (p_v (d_ix (ix_any hu) n_ix (p_b (pv 0)) (p_v d_int) (fun _ _ => rfl))) (fun _ _ => rfl))) (p_v d_non) (nomark _)))))
    (ss_one (s_ret d_bl))
    ss_nil)
  (ss_one (s_ret (d_cmp (o_eq hu) n_eq (p_v (d_cb (call_repr hgu hr.units80) n_repr rfl m_repr bt_repr (pa_c (p_b (pv 5)) pa_n))) (p_v (d_cb (call_repr hgu hr.units80) n_repr rfl m_repr bt_repr (pa_c (p_v (d_ix (ix_any hu) n_ix (p_b (pv 1)) (p_v (d_ix (ix_any hu) n_ix (p_b (pv 0)) (p_v d_int) (fun _ _ => rfl))) (fun _ _ => rfl))) pa_n))) (nomark _)))))))))))))
set_option maxHeartbeats 4000000 in
theorem ok_law {f : Addr} {fd : FuncData} (F : Fun K "law" "law" s_law f fd) (c__law_condition : Cl P w K mg base 45 "_law_condition" 4 F__law_condition []) (c__law_deck : Cl P w K mg base 1 "_law_deck" 1 F__law_deck []) (c__law_draw : Cl P w K mg base 1 "_law_draw" 2 F__law_draw []) (c__law_holds : ClG P w K mg base 42 "_law_holds" 2 (Lw.F__law_holds 40) []) (c__law_is_condition : Cl P w K mg base 41 "_law_is_condition" 3 (Lw.F__law_is_condition 40) []) (c__law_meaning : Cl P w K mg base 5 "_law_meaning" 2 F__law_meaning []) (c__law_names : Cl P w K mg base 4 "_law_names" 3 F__law_names []) (c__law_nodes : Cl P w K mg base 41 "_law_nodes" 1 (Lw.F__law_nodes 40) []) (c_normal : Cl P w K mg base 41 "normal" 1 (Lw.F_normal 40) []) (m_len : mg "len" = none) (m_range : mg "range" = none) : FnG P w K mg base (L2.CX P w) 46 f fd [(PySem.Str.ofString "_law_script")] (spD K mg 1 F_law) :=
  fn_dnG (k := 45) (ks := [0]) (g := G_law) (N := sc_lawN) (ps := [(PySem.Str.ofString "_law_script")]) F sc_law 1 9 rfl rfl (fun cdv A outer s H E hgu hr tk hp => by
    have hu := hr.units
    have hu5 := hr.units5
    exact (ss_cons (s_set (i := 1) sc_law.nd rfl (Or.inl rfl) (d_call c__law_deck hr tk (pa_c (p_b (pv 0)) pa_n)))
  (ss_cons (s_set (i := 2) sc_law.nd rfl (Or.inl rfl) (d_call c__law_names hr tk (pa_c (p_b (pv 1)) (pa_c (p_v (d_op o_add n_add (p_v d_int) (p_v (d_call c__law_draw hr tk (pa_c (p_b (pv 1)) (pa_c (p_v d_int) pa_n)))))) (pa_c (p_v (d_lst (is_c d_str is_n))) pa_n)))))
  (ss_cons (s_set (i := 3) sc_law.nd rfl (Or.inl rfl) (d_sl01 (p_b (pv 2)) (p_v (d_call c__law_draw hr tk (pa_c (p_b (pv 1)) (pa_c (p_v d_int) pa_n))))))
  (ss_cons (s_set (i := 4) sc_law.nd rfl (Or.inl rfl) (d_call c__law_condition hr tk (pa_c (p_b (pv 1)) (pa_c (p_b (pv 2)) (pa_c (p_b (pv 3)) (pa_c (p_v d_int) pa_n))))))
  (ss_cons (s_set (i := 5) sc_law.nd rfl (Or.inl rfl) (d_call c_normal hr tk (pa_c (p_b (pv 4)) pa_n)))
  (ss_cons (s_set (i := 6) sc_law.nd rfl (Or.inl rfl) (d_call c__law_nodes hr tk (pa_c (p_b (pv 4)) pa_n)))
  (ss_cons (s_if (c_w (w_or (c_not (c_tst (d_call c__law_is_condition hr tk (pa_c (p_b (pv 5)) (pa_c (p_b (pv 6)) (pa_c (p_v d_int) pa_n)))))) (w_one (c_cmp (o_gt hu) n_gt (p_v (d_cb call_len n_len rfl m_len bt_len (pa_c (p_v (d_call c__law_nodes hr tk (pa_c (p_b (pv 5)) pa_n))) pa_n))) (p_v (d_cb call_len n_len rfl m_len bt_len (pa_c (p_b (pv 6)) pa_n))) (nomark _)))))
    (ss_one (s_ret d_bl))
    ss_nil)
  (ss_cons (s_for hp rfl (i_rng1 rfl m_range (pa_c (p_v d_int) pa_n)) (pg_name (i := 7) sc_law.nd rfl (Or.inl rfl))
    (ss_cons (s_set (i := 8) sc_law.nd rfl (Or.inl rfl) (d_call c__law_meaning hr tk (pa_c (p_b (pv 1)) (pa_c (p_b (pv 2)) pa_n))))
  (ss_one (s_if (c_cmp (o_ne hu) n_ne (p_v (d_callG c__law_holds hgu hr tk (pa_c (p_b (pv 5)) (pa_c (p_b (pv 8)) pa_n)))) (p_v (d_callG c__law_holds hgu hr tk (pa_c (p_b (pv 4)) (pa_c (p_b (pv 8)) pa_n)))) (nomark _))
    (ss_one (s_ret d_bl))
    ss_nil))) (by decide))
  (ss_one (s_ret d_bl)))))))))))
end
local macro_rules | `(tactic| walk_at "ev") => `(tactic| simp [eDct0_a, gTab_q, gIx_ds, gIx_di, gIn_ds, gNotIn_ds, gIn_di, gNotIn_di, gGet1_s, gGet1_i, sSetK_a, eDisp_a, gDictC_d, dispL_n, dispL_c, isDct_d, mkF_e, finR_ret, finR_next, finR_ex, FEv_fin, finO_n, finO_c, sSeq_a, sIf_a, sRet_a, sSet_a, sDrop_a, sFor_a, sNext_a, sBrk_a, sCnt_a, tst_a, cAnd_a, cOr_a, cNot_a, ap_a, ops_n, ops_b, ops_v, eC_a, eVar_a, eMove_a, eFz_a, eIf_a, eAnd_a, eOr_a, eNot_a, items_n, items_c, eTup_a, eLst_a, pure_a, stuck_a, bind_a, eCall_e, callR_ok, callR_ex, Ev_callR, cops_n, cops_b, cops_v, wb, thn_ok, thn_ex, thn_none, ↓Ev_d, ↓FEv_d, Ev_thn, Ev_ok, Ev_ex, Ev_none, FEv_ok, FEv_ex, FEv_none, getO_nil, getO_0, getO_0n, getO_s, gAdd_i, gAdd_z, gAdd_l, gAdd_t, gAddI_i, gSub_i, gMul_i, gMulS_q, gDiv_i, gMod_i, gPow_i, gNeg_i, gEq_i, gEq_z, gEq_b, gNe_i, gNe_z, gNe_b, gEq_l, gEq_t, gEq_s, gEq_n, gNe_l, gNe_t, gNe_s, gNe_n, gLt_i, gLtX_i, gLtX_z, gLtX_t, gLtX_l, gGt_i, gLe_i, gGe_i, gLt_t, gGt_t, gLe_t, gGe_t, gLt_l, gGt_l, gLe_l, gGe_l, gLt_z, gGt_z, gLe_z, gGe_z, gIsN_n, gIsN_b, gIsN_i, gIsN_z, gIsN_l, gIsN_t, gIsN_s, gIsN_bb, gNotN_n, gNotN_b, gNotN_i, gNotN_z, gNotN_l, gNotN_t, gNotN_s, gNotN_bb, gIn_z, gIn_l, gIn_t, gNotIn_z, gNotIn_l, gNotIn_t, gIx_l, gIx_t, gIx_s, gIx_z, gLen_l, gLen_t, gLen_s, gLen_z, gInt_i, gInt_b, gOrd_1, gListX_z, gListX_l, gListX_t, gListX_s, gList_l, gList_t, gList_s, gTuple_l, gTuple_t, gApp_q, gPop_q, gPop0_q, gExt_q, gRev_q, gIsi_q, gSl00, gSl10, gSl01, gSl11, slD_l, slD_t, slD_s, slD_z, gRevS_l, gCount_z, gStarts_z, gRstrip_z, seqD_l, seqD_t, seqD_s, seqD_z, sRng1_e, sRng2_e, rgR1_q, rgR2_q, sSeqD_a, isStr, sEnum_a, eComp_e, lcR_ok, Ev_lcR, wipeE_n, wipeE_c, restE_n, restE_c, eMut1_a, eMut0_a, sSetIx_a, eChain_a, tru_a, sAug_a, sSetT_a, apM_b, apM_v, eI_a, Tg.go, gMax2_i, gMin2_i, gIns0_q, gStr1_i, gAbs_i, truD_bl, truD_l, truD_t, gEq_iz, gEq_zi, gNe_iz, gNe_zi, atI_c0, atI_c1, atI_c2, atI_c3, atI_c4, atI_c5, isi_int_non, isi_int_bl, isi_int_int, isi_int_str, isi_int_lst, isi_int_scr, isi_int_tup, isi_bool_non, isi_bool_bl, isi_bool_int, isi_bool_str, isi_bool_lst, isi_bool_scr, isi_bool_tup, isi_str_non, isi_str_bl, isi_str_int, isi_str_str, isi_str_lst, isi_str_scr, isi_str_tup, isi_list_non, isi_list_bl, isi_list_int, isi_list_str, isi_list_lst, isi_list_scr, isi_list_tup, isi_tuple_non, isi_tuple_bl, isi_tuple_int, isi_tuple_str, isi_tuple_lst, isi_tuple_scr, isi_tuple_tup, isLst, gLCount_s, sRaise_a, sRaise0_a, Ev_sTry, HandP_t, HandP_f, Ev_sTryM, HandM_t, HandM_u, HandM_f, HandM_n, eXf_p, eXf_w, eXi_a, *])
local macro_rules | `(tactic| walk_at "evs") => `(tactic| simp only [eDct0_a, gTab_q, gIx_ds, gIx_di, gIn_ds, gNotIn_ds, gIn_di, gNotIn_di, gGet1_s, gGet1_i, sSetK_a, eDisp_a, gDictC_d, dispL_n, dispL_c, isDct_d, mkF_e, finR_ret, finR_next, finR_ex, FEv_fin, finO_n, finO_c, sSeq_a, sIf_a, sRet_a, sSet_a, sDrop_a, sFor_a, sNext_a, sBrk_a, sCnt_a, tst_a, cAnd_a, cOr_a, cNot_a, ap_a, ops_n, ops_b, ops_v, eC_a, eVar_a, eMove_a, eFz_a, eIf_a, eAnd_a, eOr_a, eNot_a, items_n, items_c, eTup_a, eLst_a, pure_a, stuck_a, bind_a, eCall_e, callR_ok, callR_ex, Ev_callR, cops_n, cops_b, cops_v, wb, thn_ok, thn_ex, thn_none, ↓Ev_d, ↓FEv_d, Ev_thn, Ev_ok, Ev_ex, Ev_none, FEv_ok, FEv_ex, FEv_none, getO_nil, getO_0, getO_0n, getO_s, gAdd_i, gAdd_z, gAdd_l, gAdd_t, gAddI_i, gSub_i, gMul_i, gMulS_q, gDiv_i, gMod_i, gPow_i, gNeg_i, gEq_i, gEq_z, gEq_b, gNe_i, gNe_z, gNe_b, gEq_l, gEq_t, gEq_s, gEq_n, gNe_l, gNe_t, gNe_s, gNe_n, gLt_i, gLtX_i, gLtX_z, gLtX_t, gLtX_l, gGt_i, gLe_i, gGe_i, gLt_t, gGt_t, gLe_t, gGe_t, gLt_l, gGt_l, gLe_l, gGe_l, gLt_z, gGt_z, gLe_z, gGe_z, gIsN_n, gIsN_b, gIsN_i, gIsN_z, gIsN_l, gIsN_t, gIsN_s, gIsN_bb, gNotN_n, gNotN_b, gNotN_i, gNotN_z, gNotN_l, gNotN_t, gNotN_s, gNotN_bb, gIn_z, gIn_l, gIn_t, gNotIn_z, gNotIn_l, gNotIn_t, gIx_l, gIx_t, gIx_s, gIx_z, gLen_l, gLen_t, gLen_s, gLen_z, gInt_i, gInt_b, gOrd_1, gListX_z, gListX_l, gListX_t, gListX_s, gList_l, gList_t, gList_s, gTuple_l, gTuple_t, gApp_q, gPop_q, gPop0_q, gExt_q, gRev_q, gIsi_q, gSl00, gSl10, gSl01, gSl11, slD_l, slD_t, slD_s, slD_z, gRevS_l, gCount_z, gStarts_z, gRstrip_z, seqD_l, seqD_t, seqD_s, seqD_z, sRng1_e, sRng2_e, rgR1_q, rgR2_q, sSeqD_a, isStr, sEnum_a, eComp_e, lcR_ok, Ev_lcR, wipeE_n, wipeE_c, restE_n, restE_c, eMut1_a, eMut0_a, sSetIx_a, eChain_a, tru_a, sAug_a, sSetT_a, apM_b, apM_v, eI_a, Tg.go, gMax2_i, gMin2_i, gIns0_q, gStr1_i, gAbs_i, truD_bl, truD_l, truD_t, gEq_iz, gEq_zi, gNe_iz, gNe_zi, atI_c0, atI_c1, atI_c2, atI_c3, atI_c4, atI_c5, isi_int_non, isi_int_bl, isi_int_int, isi_int_str, isi_int_lst, isi_int_scr, isi_int_tup, isi_bool_non, isi_bool_bl, isi_bool_int, isi_bool_str, isi_bool_lst, isi_bool_scr, isi_bool_tup, isi_str_non, isi_str_bl, isi_str_int, isi_str_str, isi_str_lst, isi_str_scr, isi_str_tup, isi_list_non, isi_list_bl, isi_list_int, isi_list_str, isi_list_lst, isi_list_scr, isi_list_tup, isi_tuple_non, isi_tuple_bl, isi_tuple_int, isi_tuple_str, isi_tuple_lst, isi_tuple_scr, isi_tuple_tup, isLst, gLCount_s, sRaise_a, sRaise0_a, Ev_sTry, HandP_t, HandP_f, Ev_sTryM, HandM_t, HandM_u, HandM_f, HandM_n, eXf_p, eXf_w, eXi_a])
theorem abc_zl : zl (PySem.Str.ofString "abcdefghijklmnopqrstuvwxyz") = [97, 98, 99, 100, 101, 102, 103, 104, 105, 106, 107, 108, 109, 110, 111, 112, 113, 114, 115, 116, 117, 118, 119, 120, 121, 122] := by decide +kernel
theorem abc_len : (PySem.Str.ofString "abcdefghijklmnopqrstuvwxyz").length = 26 := by decide +kernel
theorem abc_at {r : Int} (h0 : 0 ≤ r) (h1 : r < 26) : atI (PySem.Str.ofString "abcdefghijklmnopqrstuvwxyz").cps.toList r = some (97 + r.toNat) := by
  obtain ⟨n, rfl⟩ := Int.eq_ofNat_of_zero_le h0
  have h2 : n < 26 := by omega
  have e : (PySem.Str.ofString "abcdefghijklmnopqrstuvwxyz").cps.toList = _ := abc_zl
  rw [e, atI_nat' (by omega) (by show (n : Int) < 26; omega)]
  clear h0 h1
  revert n
  decide
def LtrZ (z : Str) : Prop := ∀ c ∈ zl z, 97 ≤ c ∧ c ≤ 122
theorem LtrZ.ok {z : Str} (h : LtrZ z) : ∀ c ∈ zl z, c < 1114112 := fun c hc => by have := h c hc; omega
/-- a row of one-sign texts that are letters -/
def LtRow (xs : List D) : Prop := ∃ cs : List Nat, xs = cs.map (fun c => D.str (one c)) ∧ ∀ c ∈ cs, 97 ≤ c ∧ c ≤ 122
theorem ltRow_of : ∀ (xs : List D), (∀ x ∈ xs, ∃ c, x = D.str (one c) ∧ 97 ≤ c ∧ c ≤ 122) → LtRow xs
  | [], _ => ⟨[], rfl, fun c h => (List.not_mem_nil h).elim⟩
  | x :: xs, h => by
    obtain ⟨c, rfl, hc⟩ := h x List.mem_cons_self
    obtain ⟨cs, rfl, hcs⟩ := ltRow_of xs fun y hy => h y (List.mem_cons_of_mem _ hy)
    refine ⟨c :: cs, rfl, fun d hd => ?_⟩
    rcases List.mem_cons.mp hd with rfl | hd
    · exact hc
    · exact hcs d hd
theorem LtRow.join {xs : List D} (h : LtRow xs) (hl : xs.length ≤ 1000) : ∃ z : Str, gJoin [.str (PySem.Str.ofString ""), .lst xs] = some (sO z) ∧ LtrZ z ∧ z.length = xs.length := by
  obtain ⟨cs, rfl, hcs⟩ := h
  rw [List.length_map] at hl
  exact ⟨⟨cs.toArray⟩, gJoin_ones (by omega), hcs, by rw [len_mk, List.length_map]⟩
/-- the deck that is drawn from -/
structure Dk where
  c0 : Int
  i : Int
  seed : Int
  ss : List Int
  c4 : Int
  hi : 0 ≤ i
def dkL (k : Dk) : List D := [.int k.c0, .int k.i, .int k.seed, .lst (k.ss.map .int), .int k.c4]
def dk (k : Dk) : O := .lst (dkL k)
def Dk.s4 (k : Dk) (v : Int) : Dk := ⟨k.c0, k.i, k.seed, k.ss, v, k.hi⟩
theorem dk_e (k : Dk) : dk k = .lst [.int k.c0, .int k.i, .int k.seed, .lst (k.ss.map .int), .int k.c4] := rfl
theorem dk_d (k : Dk) : (dk k).d = .lst [.int k.c0, .int k.i, .int k.seed, .lst (k.ss.map .int), .int k.c4] := rfl
theorem ix5_0 {n : Nat} : ixN (n + 5) 0 = some 0 := ixN_nat (by omega) (by omega)
theorem ix5_1 {n : Nat} : ixN (n + 5) 1 = some 1 := ixN_nat (by omega) (by omega)
theorem ix5_2 {n : Nat} : ixN (n + 5) 2 = some 2 := ixN_nat (by omega) (by omega)
theorem ix5_4 {n : Nat} : ixN (n + 5) 4 = some 4 := ixN_nat (by omega) (by omega)
theorem deck_ok (ns : List Int) : ∃ k, F__law_deck [.fr (.scr ns)] = some (.ok (dk k) [.fr (.scr ns)]) := by
  have H : FEv (F__law_deck [.fr (.scr ns)]) (@hq _ _ ⟨fun o os => (∃ k, o = dk k) ∧ os = [.fr (.scr ns)]⟩) (fun _ _ => False) := by
    unfold F__law_deck G__law_deck
    walk_at "ev"
    refine Ev_forP (f := D.int) (fun done e => @Dn.hb _ ⟨fun e => ∃ (s : Int) (q : Option O), e = [some (.fr (.scr ns)), some (iO s), q]⟩ e) _ ns [] _ ⟨_, _, rfl⟩ ?_ ?_
    · rintro pre x post e he ⟨s, q, rfl⟩
      refine ⟨_, rfl, ?_⟩
      have m1 : mulOk s 48271 = true := mul_small' (by omega)
      unfold B__law_deck_0
      clear he
      walk_at "ev"
      exact hbi ⟨_, _, rfl⟩
    · rintro e ⟨s, q, rfl⟩
      walk_at "ev"
      exact hqi ⟨⟨⟨0, 0, s, ns, 19, Int.le_refl _⟩, rfl⟩, rfl⟩
  obtain ⟨o, os, h, ⟨k, rfl⟩, rfl⟩ := H.get
  exact ⟨k, h⟩
theorem draw_ex (k : Dk) (b : Int) (hb : 0 < b) (hb2 : b < 1000000) : ∃ v k', F__law_draw [dk k, .fr (.int b)] = some (.ok (iO v) [dk k', .fr (.int b)]) ∧ 0 ≤ v ∧ v < b ∧ k'.c4 = k.c4 := by
  have H : FEv (F__law_draw [dk k, .fr (.int b)]) (@hq _ _ ⟨fun o os => ∃ v k', o = iO v ∧ os = [dk k', .fr (.int b)] ∧ 0 ≤ v ∧ v < b ∧ k'.c4 = k.c4⟩) (fun _ _ => False) := by
    have hne : ¬ b = 0 := by omega
    have hna : b.natAbs < 1073741824 := by omega
    have hbd : ∀ x : Int, 0 ≤ x.fmod b ∧ x.fmod b < b := fun x => fm_bd hb
    have m1 : mulOk k.seed 48271 = true := mul_small' (by omega)
    have hde := dk_e k
    have e0 := @ix5_0 0
    have e1 := @ix5_1 0
    have e2 := @ix5_2 0
    have hi := k.hi
    unfold F__law_draw G__law_draw
    by_cases h0 : k.c0 = 0
    · by_cases h1 : k.i < k.ss.length
      · obtain ⟨x, hx, _⟩ := atI_some (xs := k.ss.map D.int) (i := k.i) hi (by rw [List.length_map]; exact h1)
        have hxi : ∃ j, x = .int j := by
          rename_i hm
          obtain ⟨j, _, rfl⟩ := List.mem_map.mp hm
          exact ⟨j, rfl⟩
        obtain ⟨j, rfl⟩ := hxi
        obtain ⟨a, ha⟩ : ∃ a, gAbs [.int j] = some (iO a) := ⟨_, gAbs_i⟩
        have hb3 := hbd a
        have fin : ∃ k' : Dk, dk k' = .lst [.int (a.fdiv b), .int (k.i + 1), .int k.seed, .lst (k.ss.map .int), .int k.c4] ∧ k'.c4 = k.c4 := ⟨⟨_, _, _, _, _, by omega⟩, rfl, rfl⟩
        clear hbd
        walk_at "ev"
        obtain ⟨k', f1, f2⟩ := fin
        exact hqi ⟨_, k', rfl, by rw [f1], hb3.1, hb3.2, f2⟩
      · have hb3 := hbd (((k.seed * 48271 + 11).fmod 2147483647).fdiv 5)
        have fin : ∃ k' : Dk, dk k' = .lst [.int ((((k.seed * 48271 + 11).fmod 2147483647).fdiv 5).fdiv b), .int k.i, .int ((k.seed * 48271 + 11).fmod 2147483647), .lst (k.ss.map .int), .int k.c4] ∧ k'.c4 = k.c4 := ⟨⟨_, _, _, _, _, hi⟩, rfl, rfl⟩
        clear hbd
        walk_at "ev"
        obtain ⟨k', f1, f2⟩ := fin
        exact hqi ⟨_, k', rfl, by rw [f1], hb3.1, hb3.2, f2⟩
    · have hb3 := hbd k.c0
      have fin : ∃ k' : Dk, dk k' = .lst [.int (k.c0.fdiv b), .int k.i, .int k.seed, .lst (k.ss.map .int), .int k.c4] ∧ k'.c4 = k.c4 := ⟨⟨_, _, _, _, _, hi⟩, rfl, rfl⟩
      clear hbd
      walk_at "ev"
      obtain ⟨k', f1, f2⟩ := fin
      exact hqi ⟨_, k', rfl, by rw [f1], hb3.1, hb3.2, f2⟩
  obtain ⟨o, os, h, v, k', rfl, rfl, h1⟩ := H.get
  exact ⟨v, k', h, h1⟩
open Classical in
noncomputable def dV (k : Dk) (b : Int) : Int := if h : 0 < b ∧ b < 1000000 then (draw_ex k b h.1 h.2).choose else 0
open Classical in
noncomputable def dN (k : Dk) (b : Int) : Dk := if h : 0 < b ∧ b < 1000000 then (draw_ex k b h.1 h.2).choose_spec.choose else k
theorem draw_ok (k : Dk) (b : Int) (hb : 0 < b) (hb2 : b < 1000000) : F__law_draw [dk k, .fr (.int b)] = some (.ok (iO (dV k b)) [dk (dN k b), .fr (.int b)]) := by
  unfold dV dN
  rw [dif_pos ⟨hb, hb2⟩, dif_pos ⟨hb, hb2⟩]
  exact (draw_ex k b hb hb2).choose_spec.choose_spec.1
theorem draw_bd (k : Dk) {b : Int} (hb : 0 < b) (hb2 : b < 1000000) : 0 ≤ dV k b ∧ dV k b < b := by
  unfold dV
  rw [dif_pos ⟨hb, hb2⟩]
  exact ⟨(draw_ex k b hb hb2).choose_spec.choose_spec.2.1, (draw_ex k b hb hb2).choose_spec.choose_spec.2.2.1⟩
theorem draw_c4 (k : Dk) (b : Int) : (dN k b).c4 = k.c4 := by
  unfold dN
  split
  · rename_i h; exact (draw_ex k b h.1 h.2).choose_spec.choose_spec.2.2.2
  · rfl
theorem dletter_ex (k : Dk) : ∃ c k', F__law_letter [dk k] = some (.ok (sO (one c)) [dk k']) ∧ (97 ≤ c ∧ c ≤ 122) ∧ k'.c4 = k.c4 := by
  have H : FEv (F__law_letter [dk k]) (@hq _ _ ⟨fun o os => ∃ c k', o = sO (one c) ∧ os = [dk k'] ∧ (97 ≤ c ∧ c ≤ 122) ∧ k'.c4 = k.c4⟩) (fun _ _ => False) := by
    have dr := draw_ok
    have ab2 : (PySem.Str.ofString "ab").length ≤ sizeLine := sz_of (by decide +kernel)
    have hs : (PySem.Str.ofString "abcdefghijklmnopqrstuvwxyz").length ≤ sizeLine := sz_of (by rw [abc_len]; omega)
    unfold F__law_letter G__law_letter
    by_cases h : dV k 2 = 0
    · have bd := draw_bd (dN k 2) (b := 2) (by omega) (by omega)
      have hz : (PySem.Str.ofString "ab").cps.toList = [97, 98] := by decide +kernel
      have hab : ∃ c, atI (PySem.Str.ofString "ab").cps.toList (dV (dN k 2) 2) = some c ∧ 97 ≤ c ∧ c ≤ 122 := by
        rw [hz]
        have : dV (dN k 2) 2 = 0 ∨ dV (dN k 2) 2 = 1 := by omega
        rcases this with h | h
        · rw [h]; exact ⟨97, rfl, by omega, by omega⟩
        · rw [h]; exact ⟨98, rfl, by omega, by omega⟩
      obtain ⟨c, h1, h2⟩ := hab
      clear hz
      walk_at "ev"
      exact hqi ⟨c, _, rfl, rfl, h2, by rw [draw_c4, draw_c4]⟩
    · have bd := draw_bd (dN k 2) (b := 26) (by omega) (by omega)
      have ha := abc_at bd.1 bd.2
      walk_at "ev"
      exact hqi ⟨_, _, rfl, rfl, by omega, by rw [draw_c4, draw_c4]⟩
  obtain ⟨o, os, h, c, k', rfl, rfl, h1⟩ := H.get
  exact ⟨c, k', h, h1⟩
noncomputable def lV (k : Dk) : Nat := (dletter_ex k).choose
noncomputable def lN (k : Dk) : Dk := (dletter_ex k).choose_spec.choose
theorem letter_ok (k : Dk) : F__law_letter [dk k] = some (.ok (sO (one (lV k))) [dk (lN k)]) := (dletter_ex k).choose_spec.choose_spec.1
theorem letter_bd (k : Dk) : 97 ≤ lV k ∧ lV k ≤ 122 := (dletter_ex k).choose_spec.choose_spec.2.1
theorem letter_c4 (k : Dk) : (lN k).c4 = k.c4 := (dletter_ex k).choose_spec.choose_spec.2.2
/-- letters from the deck, one by one -/
theorem dltr_comp (rest : Sl) (C : M O) (j : Nat) (hC : ∀ k (d : D), ∃ e1, (Tg.n j).go d (some (dk k) :: rest) = some e1 ∧ Ev (C e1) (fun o e3 => o.d = .str (one (lV k)) ∧ wipeE e3 [j] = some (dk (lN k)) :: rest) (fun _ _ => False)) (k : Dk) (n : Int) (h0 : 0 ≤ n) (h1 : n ≤ 1000) :
    ∃ z k', lcL [j] (.n j) cYes C (rngD 0 n) [] (some (dk k) :: rest) = some ((zl z).map fun c => D.str (one c), some (dk k') :: rest) ∧ LtrZ z ∧ (z.length : Int) = n ∧ k'.c4 = k.c4 := by
  obtain ⟨xs, e', c1, c2, cs, k', rfl, rfl, c3, c4⟩ := lc_acc (own := [j]) (tg := .n j) (f := C) (fun acc e => ∃ (cs : List Nat) (k' : Dk), acc = cs.map (fun c => D.str (one c)) ∧ e = some (dk k') :: rest ∧ (∀ c ∈ cs, 97 ≤ c ∧ c ≤ 122) ∧ k'.c4 = k.c4) (rngD 0 n) (some (dk k) :: rest) (by rw [rngD_len]; omega) (fun d _ acc e ⟨cs, k1, e1, e2, e3, e4⟩ => by
    subst e1 e2
    obtain ⟨e1, g1, g2⟩ := hC k1 d
    refine ⟨e1, g1, g2.mono (fun o e3' ⟨q1, q2⟩ => ⟨cs ++ [lV k1], lN k1, by rw [List.map_append, q1]; rfl, q2, fun c hc => ?_, by rw [letter_c4, e4]⟩) (fun _ _ z => z)⟩
    rcases List.mem_append.mp hc with hc | hc
    · exact e3 c hc
    · rw [List.mem_singleton.mp hc]; exact letter_bd k1) ⟨[], k, rfl, rfl, fun c h => (List.not_mem_nil h).elim, rfl⟩
  rw [List.length_map, rngD_len] at c2
  exact ⟨⟨cs.toArray⟩, k', c1, c3, by rw [len_mk]; omega, c4⟩
theorem dtext_ex (k : Dk) (m : Int) (hm : 0 ≤ m) (hm2 : m ≤ 100) : ∃ z k', F__law_text [dk k, .fr (.int m)] = some (.ok (sO z) [dk k', .fr (.int m)]) ∧ LtrZ z ∧ (z.length : Int) ≤ m ∧ k'.c4 = k.c4 := by
  have H : FEv (F__law_text [dk k, .fr (.int m)]) (@hq _ _ ⟨fun o os => ∃ z k', o = sO z ∧ os = [dk k', .fr (.int m)] ∧ LtrZ z ∧ (z.length : Int) ≤ m ∧ k'.c4 = k.c4⟩) (fun _ _ => False) := by
    have dr := draw_ok k (m + 1) (by omega) (by omega)
    have bd := draw_bd k (b := m + 1) (by omega) (by omega)
    have ri : inR (dV k (m + 1)) = true := inR_pos bd.1 (by omega)
    have lt := letter_ok
    obtain ⟨z, k', c1, c2, c3, c4⟩ := dltr_comp [some (iO m), some (iO (dV k (m + 1))), none] C__law_text_0 3 (fun k d => ⟨_, rfl, by
      unfold C__law_text_0
      walk_at "ev"⟩) (dN k (m + 1)) (dV k (m + 1)) bd.1 (by omega)
    have hj := gJoin_ones (cs := zl z) (by have : (zl z).length = z.length := rfl; omega)
    have hz : (⟨(zl z).toArray⟩ : Str) = z := zl_inj (zl_mk _)
    rw [hz] at hj
    have c5 : k'.c4 = k.c4 := by rw [c4, draw_c4]
    have c6 : (z.length : Int) ≤ m := by omega
    unfold F__law_text G__law_text
    clear bd c3 c4 hz
    walk_at "ev"
    exact hqi ⟨z, k', rfl, rfl, c2, c6, c5⟩
  obtain ⟨o, os, h, z, k', rfl, rfl, h1⟩ := H.get
  exact ⟨z, k', h, h1⟩
/-- a name: letters, one to 18 -/
def IsNm (z : Str) : Prop := LtrZ z ∧ 1 ≤ z.length ∧ z.length ≤ 20
theorem strs_shp (zs : List Str) (h : ∀ z ∈ zs, LtrZ z) : shp (.lst (zs.map .str)) = true := (shp_lst (k := 0) fun x hx => let ⟨z, hz, e⟩ := List.mem_map.mp hx; e ▸ shp_str (h z hz).ok).shp (by omega)
theorem dnames_ex (k : Dk) (n : Int) (hn : 0 ≤ n) (hn2 : n ≤ 100) (bs : List Str) (hbs : ∀ z ∈ bs, LtrZ z) : ∃ (nms : List Str) (k' : Dk), F__law_names [dk k, .fr (.int n), .fr (.lst (bs.map .str))] = some (.ok (.lst (nms.map .str)) [dk k', .fr (.int n), .fr (.lst (bs.map .str))]) ∧ (∀ z ∈ nms, IsNm z) ∧ (nms.length : Int) = n := by
  have H : FEv (F__law_names [dk k, .fr (.int n), .fr (.lst (bs.map .str))]) (@hq _ _ ⟨fun o os => ∃ (nms : List Str) (k' : Dk), o = .lst (nms.map .str) ∧ os = [dk k', .fr (.int n), .fr (.lst (bs.map .str))] ∧ (∀ z ∈ nms, IsNm z) ∧ (nms.length : Int) = n⟩) (fun _ _ => False) := by
    have ri : inR n = true := inR_pos hn (by omega)
    have r9 : inR 9 = true := by decide
    have sb := strs_shp bs hbs
    have lt := letter_ok
    have hs26 : (PySem.Str.ofString "abcdefghijklmnopqrstuvwxyz").length ≤ sizeLine := sz_of (by rw [abc_len]; omega)
    unfold F__law_names G__law_names
    walk_at "ev"
    refine Ev_forL (fun i e => @Dn.hb _ ⟨fun e => ∃ (nms : List Str) (k' : Dk) (q4 q5 q6 : Option O), e = [some (dk k'), some (iO n), some (.fr (.lst (bs.map .str))), some (.lst (nms.map .str)), q4, q5, q6] ∧ (∀ z ∈ nms, IsNm z) ∧ nms.length = i⟩ e) _ (rngD 0 n) _ ⟨[], _, _, _, _, rfl, fun z h => (List.not_mem_nil h).elim, rfl⟩ ?_ ?_
    · rintro i d e hd ⟨nms, k', q4, q5, q6, rfl, hN, hlen⟩
      obtain ⟨rfl, hi⟩ := rng0_get hd
      refine ⟨_, rfl, ?_⟩
      obtain ⟨t, k2, t1, t2, t3, t4⟩ := dtext_ex (lN k') 2 (by omega) (by omega)
      have lb := letter_bd k'
      have s1 : (one (lV k')).length + t.length ≤ sizeLine := sz2_of (by rw [len_one]; omega)
      have hz : LtrZ (one (lV k') ++ t) := fun c hc => by
        rw [zl_app] at hc
        rcases List.mem_append.mp hc with hc | hc
        · rw [List.mem_singleton.mp hc]; exact lb
        · exact t2 c hc
      have hzl : (one (lV k') ++ t).length = 1 + t.length := by rw [len_app, len_one]
      have sn := strs_shp nms fun z hz => (hN z hz).1
      have lsz : i < sizeLine := szl1_of' (by omega)
      have key : Ev (forL (.n 6) B__law_names_0 (rngD 0 9) [some (dk k2), some (iO n), some (.fr (.lst (bs.map .str))), some (.lst (nms.map .str)), some (iO (i : Int)), some (sO (one (lV k') ++ t)), q6]) (fun fl e => fl = .next ∧ ∃ z q6, e = [some (dk k2), some (iO n), some (.fr (.lst (bs.map .str))), some (.lst (nms.map .str)), some (iO (i : Int)), some (sO z), q6] ∧ IsNm z) (fun _ _ => False) := by
        refine Ev_forL (fun j e => @Dn.hb _ ⟨fun e => ∃ (z : Str) (q6 : Option O), e = [some (dk k2), some (iO n), some (.fr (.lst (bs.map .str))), some (.lst (nms.map .str)), some (iO (i : Int)), some (sO z), q6] ∧ LtrZ z ∧ 1 ≤ z.length ∧ z.length ≤ 3 + j⟩ e) _ (rngD 0 9) _ ⟨_, _, rfl, hz, by omega, by omega⟩ ?_ ?_
        · rintro j d e hd2 ⟨z, q6, rfl, hz, hz1, hz2⟩
          obtain ⟨rfl, hj⟩ := rng0_get hd2
          refine ⟨_, rfl, ?_⟩
          have sz := shp_z hz.ok
          have m7 : mulOk (i : Int) 7 = true := mul_small' (by omega)
          have bm : 0 ≤ ((i : Int) * 7 + (j : Int)).fmod 26 ∧ ((i : Int) * 7 + (j : Int)).fmod 26 < 26 := fm_bd (by omega)
          have am := abc_at bm.1 bm.2
          have g1 := gNotIn_l sz sn
          have g2 := gNotIn_l sz sb
          have s2 : z.length + (one (97 + (((i : Int) * 7 + (j : Int)).fmod 26).toNat)).length ≤ sizeLine := sz2_of (by rw [len_one]; omega)
          have hz3 : LtrZ (z ++ one (97 + (((i : Int) * 7 + (j : Int)).fmod 26).toNat)) := fun c hc => by
            rw [zl_app] at hc
            rcases List.mem_append.mp hc with hc | hc
            · exact hz c hc
            · rw [List.mem_singleton.mp hc]; omega
          have hz4 : (z ++ one (97 + (((i : Int) * 7 + (j : Int)).fmod 26).toNat)).length = z.length + 1 := by rw [len_app, len_one]
          unfold B__law_names_0
          clear hd2 hd hN bm t3 lb
          have nxt : ∀ q, @Dn.hb _ ⟨fun e => ∃ (z : Str) (q6 : Option O), e = [some (dk k2), some (iO n), some (.fr (.lst (bs.map .str))), some (.lst (nms.map .str)), some (iO (i : Int)), some (sO z), q6] ∧ LtrZ z ∧ 1 ≤ z.length ∧ z.length ≤ 3 + (j + 1)⟩ [some (dk k2), some (iO n), some (.fr (.lst (bs.map .str))), some (.lst (nms.map .str)), some (iO (i : Int)), some (sO (z ++ one (97 + (((i : Int) * 7 + (j : Int)).fmod 26).toNat))), q] := fun q => ⟨_, _, rfl, hz3, by omega, by omega⟩
          have stop : ∀ q, ∃ z' q6, [some (dk k2), some (iO n), some (.fr (.lst (bs.map .str))), some (.lst (nms.map .str)), some (iO (i : Int)), some (sO z), q] = [some (dk k2), some (iO n), some (.fr (.lst (bs.map .str))), some (.lst (nms.map .str)), some (iO (i : Int)), some (sO z'), q6] ∧ IsNm z' := fun q => ⟨_, _, rfl, hz, hz1, by omega⟩
          clear hz hz1 hz2 hz3 hz4 hzl
          cases b1 : inL (.str z) (nms.map .str) with
          | true =>
            rw [b1] at g1
            clear stop
            walk_at "ev"
          | false =>
            rw [b1] at g1
            cases b2 : inL (.str z) (bs.map .str) with
            | true =>
              rw [b2] at g2
              clear stop
              walk_at "ev"
            | false =>
              rw [b2] at g2
              clear nxt
              have st := stop (some (iO (j : Int)))
              clear stop
              walk_at "ev"
              simpa using st
        · rintro e ⟨z, q6, rfl, hz, hz1, hz2⟩
          have : (rngD 0 9).length = 9 := by rw [rngD_len]; rfl
          rw [this] at hz2
          exact ⟨rfl, z, q6, rfl, hz, hz1, by omega⟩
      obtain ⟨fl, e3, y1, rfl, z, q6', rfl, hz'⟩ := key.get
      have hN2 : ∀ w ∈ nms ++ [z], IsNm w := fun w hw => (List.mem_append.mp hw).elim (hN w) fun h => by rw [List.mem_singleton.mp h]; exact hz'
      have hl2 : (nms ++ [z]).length = i + 1 := by rw [List.length_append, hlen]; rfl
      unfold B__law_names_1
      clear hd hN hz hzl sn lb t3 key hz'
      walk_at "ev"
      exact hbi ⟨nms ++ [z], _, _, _, _, by rw [List.map_append]; rfl, hN2, hl2⟩
    · rintro e ⟨nms, k', q4, q5, q6, rfl, hN, hlen⟩
      rw [rngD_len] at hlen
      have hl2 : (nms.length : Int) = n := by omega
      clear hlen
      walk_at "ev"
      exact hqi ⟨nms, k', rfl, rfl, hN, hl2⟩
  obtain ⟨o, os, h, nms, k', rfl, rfl, h1⟩ := H.get
  exact ⟨nms, k', h, h1⟩
/-- the signs of a pattern -/
def PatZ (z : Str) : Prop := (∀ c ∈ zl z, 97 ≤ c ∧ c ≤ 122 ∨ c = 63 ∨ c = 42) ∧ z.length ≤ 5
theorem PatZ.ok {z : Str} (h : PatZ z) : ∀ c ∈ zl z, c < 1114112 := fun c hc => by have := h.1 c hc; omega
theorem dpat_ex (k : Dk) : ∃ z k', F__law_pattern [dk k] = some (.ok (sO z) [dk k']) ∧ PatZ z ∧ k'.c4 = k.c4 := by
  have H : FEv (F__law_pattern [dk k]) (@hq _ _ ⟨fun o os => ∃ z k', o = sO z ∧ os = [dk k'] ∧ PatZ z ∧ k'.c4 = k.c4⟩) (fun _ _ => False) := by
    have dr := draw_ok
    have bd := draw_bd k (b := 6) (by omega) (by omega)
    have ri : inR (dV k 6) = true := inR_pos bd.1 (by omega)
    have lt := letter_ok
    unfold F__law_pattern G__law_pattern
    walk_at "ev"
    refine Ev_forL (fun i e => @Dn.hb _ ⟨fun e => ∃ (z : Str) (k' : Dk) (q2 q3 : Option O), e = [some (dk k'), some (sO z), q2, q3] ∧ (∀ c ∈ zl z, 97 ≤ c ∧ c ≤ 122 ∨ c = 63 ∨ c = 42) ∧ z.length = i ∧ k'.c4 = k.c4⟩ e) _ (rngD 0 (dV k 6)) _ ⟨_, _, _, _, rfl, fun c h => by rw [zl_e] at h; exact (List.not_mem_nil h).elim, by decide +kernel, draw_c4 _ _⟩ ?_ ?_
    · rintro i d e hd ⟨z, k', q2, q3, rfl, hz, hl, hc⟩
      obtain ⟨rfl, hi⟩ := rng0_get hd
      refine ⟨_, rfl, ?_⟩
      have hi5 : i ≤ 5 := by omega
      have sz : ∀ c : Nat, z.length + (one c).length ≤ sizeLine := fun c => sz2_of (by rw [len_one]; omega)
      have nx : ∀ (c : Nat) (k2 : Dk) (q2 q3 : Option O), (97 ≤ c ∧ c ≤ 122 ∨ c = 63 ∨ c = 42) → k2.c4 = k.c4 → @Dn.hb _ ⟨fun e => ∃ (z : Str) (k' : Dk) (q2 q3 : Option O), e = [some (dk k'), some (sO z), q2, q3] ∧ (∀ c ∈ zl z, 97 ≤ c ∧ c ≤ 122 ∨ c = 63 ∨ c = 42) ∧ z.length = i + 1 ∧ k'.c4 = k.c4⟩ [some (dk k2), some (sO (z ++ one c)), q2, q3] := fun c k2 q2 q3 h1 h2 => ⟨_, _, _, _, rfl, fun e he => by
        rw [zl_app] at he
        rcases List.mem_append.mp he with he | he
        · exact hz e he
        · rw [List.mem_singleton.mp he]; exact h1, by rw [len_app, len_one, hl], h2⟩
      have e1 : PySem.Str.ofString "?" = one 63 := by decide +kernel
      have e2 : PySem.Str.ofString "*" = one 42 := by decide +kernel
      have n1 := nx 63 (dN k' 5) (some (iO (i : Int))) (some (iO (dV k' 5))) (.inr (.inl rfl)) (by rw [draw_c4, hc])
      have n2 := nx 42 (dN k' 5) (some (iO (i : Int))) (some (iO (dV k' 5))) (.inr (.inr rfl)) (by rw [draw_c4, hc])
      have n3 := nx (lV (dN k' 5)) (lN (dN k' 5)) (some (iO (i : Int))) (some (iO (dV k' 5))) (.inl (letter_bd _)) (by rw [letter_c4, draw_c4, hc])
      have s1 := sz 63
      have s2 := sz 42
      have s3 := sz (lV (dN k' 5))
      unfold B__law_pattern_0
      clear hd hz hc nx sz hl
      by_cases h0 : dV k' 5 = 0
      · clear n2 n3
        rw [h0] at n1
        walk_at "ev"
      · by_cases h1 : dV k' 5 = 1
        · by_cases h2 : (Txt.count z (one 42) : Int) < 2
          · clear n1 n3
            rw [h1] at n2
            walk_at "ev"
          · clear n1 n2
            rw [h1] at n3
            walk_at "ev"
        · clear n1 n2
          walk_at "ev"
    · rintro e ⟨z, k', q2, q3, rfl, hz, hl, hc⟩
      rw [rngD_len] at hl
      have h5 : PatZ z := ⟨hz, by omega⟩
      clear hl
      walk_at "ev"
      exact hqi ⟨z, k', rfl, rfl, h5, hc⟩
  obtain ⟨o, os, h, z, k', rfl, rfl, h1⟩ := H.get
  exact ⟨z, k', h, h1⟩
/-- a condition -/
inductive Cn where
  | at0 (w : Bool) | mat (n p : Str) | sam (a b : Str) | emp (a : Str) | nt (c : Cn) | nd (w : Bool) (cs : List Cn)
abbrev sAlw : Str := PySem.Str.ofString "always"
abbrev sNev : Str := PySem.Str.ofString "never"
abbrev sMat : Str := PySem.Str.ofString "matches"
abbrev sSam : Str := PySem.Str.ofString "same"
abbrev sEmp : Str := PySem.Str.ofString "empty"
abbrev sNot : Str := PySem.Str.ofString "not"
abbrev sAnd : Str := PySem.Str.ofString "and"
abbrev sOr : Str := PySem.Str.ofString "or"
def wAt (w : Bool) : Str := if w then sAlw else sNev
def wNd (w : Bool) : Str := if w then sAnd else sOr
mutual
def Cn.d : Cn → D
  | .at0 w => .tup [.str (wAt w)]
  | .mat n p => .tup [.str sMat, .str n, .str p]
  | .sam a b => .tup [.str sSam, .str a, .str b]
  | .emp a => .tup [.str sEmp, .str a]
  | .nt c => .tup [.str sNot, Cn.d c]
  | .nd w cs => .tup (.str (wNd w) :: Cn.ds cs)
def Cn.ds : List Cn → List D
  | [] => []
  | c :: cs => Cn.d c :: Cn.ds cs
end
theorem Cn.ds_map : ∀ cs : List Cn, Cn.ds cs = cs.map Cn.d
  | [] => rfl
  | c :: cs => by rw [Cn.ds, List.map_cons, Cn.ds_map cs]
mutual
def Cn.size : Cn → Nat
  | .nt c => 1 + Cn.size c
  | .nd _ cs => 1 + Cn.sizes cs
  | .at0 _ => 1
  | .mat _ _ => 1
  | .sam _ _ => 1
  | .emp _ => 1
def Cn.sizes : List Cn → Nat
  | [] => 0
  | c :: cs => Cn.size c + Cn.sizes cs
end
theorem Cn.sizes_app : ∀ a b : List Cn, Cn.sizes (a ++ b) = Cn.sizes a + Cn.sizes b
  | [], b => by rw [List.nil_append, Cn.sizes, Nat.zero_add]
  | x :: a, b => by rw [List.cons_append, Cn.sizes, Cn.sizes, Cn.sizes_app a b]; omega
/-- over these names and registers, nested at most so deep -/
inductive COk (N R : List Str) : Nat → Cn → Prop
  | at0 (n w) : COk N R (n + 1) (.at0 w)
  | mat (n a p) : a ∈ N → PatZ p → COk N R (n + 1) (.mat a p)
  | sam (n a b) : a ∈ N → b ∈ N → COk N R (n + 1) (.sam a b)
  | emp (n a) : a ∈ R → COk N R (n + 1) (.emp a)
  | nt (n c) : COk N R n c → COk N R (n + 1) (.nt c)
  | nd (n w cs) : (∀ c ∈ cs, COk N R n c) → COk N R (n + 1) (.nd w cs)
theorem set4a (k : Dk) (n : Int) (a1 a2 a3 a4 a6 a7 : Option O) : sSetIx 0 (eC (.int 4)) (ap gSub [.v (ap gIx [.b 0, .v (eC (.int 4))]), .b 5]) [some (dk k), a1, a2, a3, a4, some (iO n), a6, a7] = some (.ok .next [some (dk (k.s4 (k.c4 - n))), a1, a2, a3, a4, some (iO n), a6, a7]) := by
  have hde := dk_e k
  have hde2 := dk_e (k.s4 (k.c4 - n))
  have e4 := @ix5_4 0
  unfold Dk.s4 at *
  walk_at "ev"
theorem set4b (k : Dk) (es : Sl) : sSetIx 0 (eC (.int 4)) (ap gSub [.v (ap gIx [.b 0, .v (eC (.int 4))]), .v (eC (.int 1))]) (some (dk k) :: es) = some (.ok .next (some (dk (k.s4 (k.c4 - 1))) :: es)) := by
  have hde := dk_e k
  have hde2 := dk_e (k.s4 (k.c4 - 1))
  have e4 := @ix5_4 0
  unfold Dk.s4 at *
  walk_at "ev"
theorem set4c (k : Dk) (v : Int) (es : Sl) : sSetIx 0 (eC (.int 4)) (eC (.int v)) (some (dk k) :: es) = some (.ok .next (some (dk (k.s4 v)) :: es)) := by
  have hde := dk_e k
  have hde2 := dk_e (k.s4 v)
  have e4 := @ix5_4 0
  unfold Dk.s4 at *
  walk_at "ev"
theorem dk_d4 (k : Dk) : gIx [(dk k).d, .int 4] = some (iO k.c4) := by
  rw [dk_d, gIx_l, atI_c4]; rfl
theorem s4_c4 (k : Dk) (v : Int) : (k.s4 v).c4 = v := rfl
local macro_rules | `(tactic| walk_at "evd") => `(tactic| simp [↓set4a, ↓set4b, ↓set4c, dk_d4, s4_c4, eDct0_a, gTab_q, gIx_ds, gIx_di, gIn_ds, gNotIn_ds, gIn_di, gNotIn_di, gGet1_s, gGet1_i, sSetK_a, eDisp_a, gDictC_d, dispL_n, dispL_c, isDct_d, mkF_e, finR_ret, finR_next, finR_ex, FEv_fin, finO_n, finO_c, sSeq_a, sIf_a, sRet_a, sSet_a, sDrop_a, sFor_a, sNext_a, sBrk_a, sCnt_a, tst_a, cAnd_a, cOr_a, cNot_a, ap_a, ops_n, ops_b, ops_v, eC_a, eVar_a, eMove_a, eFz_a, eIf_a, eAnd_a, eOr_a, eNot_a, items_n, items_c, eTup_a, eLst_a, pure_a, stuck_a, bind_a, eCall_e, callR_ok, callR_ex, Ev_callR, cops_n, cops_b, cops_v, wb, thn_ok, thn_ex, thn_none, ↓Ev_d, ↓FEv_d, Ev_thn, Ev_ok, Ev_ex, Ev_none, FEv_ok, FEv_ex, FEv_none, getO_nil, getO_0, getO_0n, getO_s, gAdd_i, gAdd_z, gAdd_l, gAdd_t, gAddI_i, gSub_i, gMul_i, gMulS_q, gDiv_i, gMod_i, gPow_i, gNeg_i, gEq_i, gEq_z, gEq_b, gNe_i, gNe_z, gNe_b, gEq_l, gEq_t, gEq_s, gEq_n, gNe_l, gNe_t, gNe_s, gNe_n, gLt_i, gLtX_i, gLtX_z, gLtX_t, gLtX_l, gGt_i, gLe_i, gGe_i, gLt_t, gGt_t, gLe_t, gGe_t, gLt_l, gGt_l, gLe_l, gGe_l, gLt_z, gGt_z, gLe_z, gGe_z, gIsN_n, gIsN_b, gIsN_i, gIsN_z, gIsN_l, gIsN_t, gIsN_s, gIsN_bb, gNotN_n, gNotN_b, gNotN_i, gNotN_z, gNotN_l, gNotN_t, gNotN_s, gNotN_bb, gIn_z, gIn_l, gIn_t, gNotIn_z, gNotIn_l, gNotIn_t, gIx_l, gIx_t, gIx_s, gIx_z, gLen_l, gLen_t, gLen_s, gLen_z, gInt_i, gInt_b, gOrd_1, gListX_z, gListX_l, gListX_t, gListX_s, gList_l, gList_t, gList_s, gTuple_l, gTuple_t, gApp_q, gPop0_q, gExt_q, gRev_q, gIsi_q, gSl00, gSl10, gSl01, gSl11, slD_l, slD_t, slD_s, slD_z, gRevS_l, gCount_z, gStarts_z, gRstrip_z, seqD_l, seqD_t, seqD_s, seqD_z, sRng1_e, sRng2_e, rgR1_q, rgR2_q, sSeqD_a, isStr, sEnum_a, eComp_e, lcR_ok, Ev_lcR, wipeE_n, wipeE_c, restE_n, restE_c, eMut1_a, eMut0_a, sSetIx_a, eChain_a, tru_a, sAug_a, sSetT_a, apM_b, apM_v, eI_a, Tg.go, gMax2_i, gIns0_q, gStr1_i, gAbs_i, truD_bl, truD_l, truD_t, gEq_iz, gEq_zi, gNe_iz, gNe_zi, atI_c0, atI_c1, atI_c2, atI_c3, atI_c4, atI_c5, isi_int_non, isi_int_bl, isi_int_int, isi_int_str, isi_int_lst, isi_int_scr, isi_int_tup, isi_bool_non, isi_bool_bl, isi_bool_int, isi_bool_str, isi_bool_lst, isi_bool_scr, isi_bool_tup, isi_str_non, isi_str_bl, isi_str_int, isi_str_str, isi_str_lst, isi_str_scr, isi_str_tup, isi_list_non, isi_list_bl, isi_list_int, isi_list_str, isi_list_lst, isi_list_scr, isi_list_tup, isi_tuple_non, isi_tuple_bl, isi_tuple_int, isi_tuple_str, isi_tuple_lst, isi_tuple_scr, isi_tuple_tup, *])
theorem strs_at (zs : List Str) {v : Int} (h0 : 0 ≤ v) (h1 : v < zs.length) : ∃ a ∈ zs, atI (zs.map D.str) v = some (.str a) := by
  obtain ⟨n, rfl⟩ := Int.eq_ofNat_of_zero_le h0
  have hn : n < zs.length := by omega
  exact ⟨zs[n], List.getElem_mem hn, by rw [atI_cn, List.getElem?_map, List.getElem?_eq_getElem hn]; rfl⟩
theorem str_in {z : Str} {zs : List Str} (hz : ∀ c ∈ zl z, c < 1114112) (hs : ∀ y ∈ zs, ∀ c ∈ zl y, c < 1114112) : gIn [.str z, .lst (zs.map .str)] = some (bO (decide (z ∈ zs))) := by
  have s2 : shp (.lst (zs.map .str)) = true := (shp_lst (k := 0) fun x hx => let ⟨y, hy, e⟩ := List.mem_map.mp hx; e ▸ shp_str (hs y hy)).shp (by omega)
  rw [gIn_l (shp_z hz) s2]
  congr 2
  have := inL_pl (x := .str z) (ds := zs.map .str) (by rw [D.pl]) fun d hd => let ⟨y, hy, e⟩ := List.mem_map.mp hd; e ▸ (by rw [D.pl])
  have h2 : D.str z ∈ zs.map D.str ↔ z ∈ zs := by
    rw [List.mem_map]
    exact ⟨fun ⟨y, hy, e⟩ => by injection e with e; exact e ▸ hy, fun h => ⟨z, h, rfl⟩⟩
  rw [h2] at this
  by_cases h : z ∈ zs
  · rw [decide_eq_true h]; exact this.mpr h
  · rw [decide_eq_false h]; exact Bool.eq_false_iff.mpr fun w => h (this.mp w)
theorem words_ok : ∀ z ∈ [sAlw, sNev, sMat, sSam, sEmp, sNot, sAnd, sOr], ∀ c ∈ zl z, c < 1114112 := by decide +kernel
/-- the word of a condition -/
def Cn.w : Cn → Str
  | .at0 w => wAt w
  | .mat _ _ => sMat
  | .sam _ _ => sSam
  | .emp _ => sEmp
  | .nt _ => sNot
  | .nd w _ => wNd w
def Cn.tl : Cn → List D
  | .at0 _ => []
  | .mat n p => [.str n, .str p]
  | .sam a b => [.str a, .str b]
  | .emp a => [.str a]
  | .nt c => [c.d]
  | .nd _ cs => Cn.ds cs
theorem Cn.d_e : ∀ c : Cn, c.d = .tup (.str c.w :: c.tl)
  | .at0 _ => by rw [Cn.d]; rfl
  | .mat _ _ => by rw [Cn.d]; rfl
  | .sam _ _ => by rw [Cn.d]; rfl
  | .emp _ => by rw [Cn.d]; rfl
  | .nt _ => by rw [Cn.d]; rfl
  | .nd _ _ => by rw [Cn.d]; rfl
theorem Cn.w_mem (c : Cn) : c.w ∈ [sAlw, sNev, sMat, sSam, sEmp, sNot, sAnd, sOr] := by
  cases c with
  | at0 w => cases w <;> decide +kernel
  | nd w _ => show wNd w ∈ _; cases w <;> decide +kernel
  | mat _ _ => show sMat ∈ _; decide +kernel
  | sam _ _ => show sSam ∈ _; decide +kernel
  | emp _ => show sEmp ∈ _; decide +kernel
  | nt _ => show sNot ∈ _; decide +kernel
theorem Cn.w_ok (c : Cn) : ∀ x ∈ zl c.w, x < 1114112 := words_ok _ c.w_mem
theorem Cn.w_one {c : Cn} (h : c.w ∈ [sMat, sEmp, sNev]) : c.size = 1 := by
  cases c with
  | nd w _ =>
    have h' : wNd w ∈ [sMat, sEmp, sNev] := h
    cases w <;> (exact absurd h' (by decide +kernel))
  | nt _ =>
    have h' : sNot ∈ [sMat, sEmp, sNev] := h
    exact absurd h' (by decide +kernel)
  | at0 _ => rw [Cn.size]
  | mat _ _ => rw [Cn.size]
  | sam _ _ => rw [Cn.size]
  | emp _ => rw [Cn.size]
theorem sz_pos : ∀ c : Cn, 1 ≤ c.size := fun c => by cases c <;> simp [Cn.size] <;> omega
theorem szs_len : ∀ cs : List Cn, cs.length ≤ Cn.sizes cs
  | [] => by simp [Cn.sizes]
  | c :: cs => by have := szs_len cs; have := sz_pos c; rw [List.length_cons, Cn.sizes]; omega
theorem dpart_ex (N R : O) (nms regs : List Str) (hN : N.d = .lst (nms.map .str)) (hR : R.d = .lst (regs.map .str)) (hn0 : 0 < nms.length) (hnl : nms.length ≤ 100) (hrl : regs.length ≤ 100) : ∀ (n : Nat) (k : Dk) (dp : Nat), 1 ≤ dp → dp ≤ n → 0 ≤ k.c4 → k.c4 ≤ 100 →
    ∃ (c : Cn) (k' : Dk), F__law_part n [dk k, N, R, .fr (.int dp)] = some (.ok (.fr c.d) [dk k', N, R, .fr (.int dp)]) ∧ COk nms regs dp c ∧ 0 ≤ k'.c4 ∧ (c.size : Int) + k'.c4 ≤ 1 + k.c4
  | 0, _, dp, h1, h2, _, _ => by omega
  | n + 1, k, dp, hd1, hd2, hk0, hk1 => by
    have ih := dpart_ex N R nms regs hN hR hn0 hnl hrl n
    obtain ⟨dp', rfl⟩ : ∃ d, dp = d + 1 := ⟨dp - 1, by omega⟩
    have H : FEv (F__law_part (n + 1) [dk k, N, R, .fr (.int ((dp' + 1 : Nat) : Int))]) (@hq _ _ ⟨fun o os => ∃ (c : Cn) (k' : Dk), o = .fr c.d ∧ os = [dk k', N, R, .fr (.int ((dp' + 1 : Nat) : Int))] ∧ COk nms regs (dp' + 1) c ∧ 0 ≤ k'.c4 ∧ (c.size : Int) + k'.c4 ≤ 1 + k.c4⟩) (fun _ _ => False) := by
      have dr := draw_ok
      have bd9 := draw_bd k (b := 9) (by omega) (by omega)
      have hsub : ((dp' + 1 : Nat) : Int) - 1 = (dp' : Int) := by omega
      unfold F__law_part G__law_part
      generalize hDP : ((dp' + 1 : Nat) : Int) = DP at *
      -- what is told when nothing is nested
      have flat : ∀ (c : Cn) (k' : Dk), COk nms regs (dp' + 1) c → c.size = 1 → k'.c4 = k.c4 → @hq O (List O) ⟨fun o os => ∃ (c : Cn) (k' : Dk), o = .fr c.d ∧ os = [dk k', N, R, .fr (.int DP)] ∧ COk nms regs (dp' + 1) c ∧ 0 ≤ k'.c4 ∧ (c.size : Int) + k'.c4 ≤ 1 + k.c4⟩ (.fr c.d) [dk k', N, R, .fr (.int DP)] := fun c k' h1 h2 h3 => ⟨c, k', rfl, rfl, h1, by omega, by omega⟩
      have nat : ∀ k1 : Dk, ∃ a ∈ nms, atI (nms.map D.str) (dV k1 nms.length) = some (.str a) := fun k1 => let b := draw_bd k1 (b := (nms.length : Int)) (by omega) (by omega); strs_at nms b.1 b.2
      have drn : ∀ k1 : Dk, F__law_draw [dk k1, .fr (.int nms.length)] = some (.ok (iO (dV k1 nms.length)) [dk (dN k1 nms.length), .fr (.int nms.length)]) := fun k1 => draw_ok k1 _ (by omega) (by omega)
      have mats : 3 ≤ dV k 9 ∨ ¬ 1 < DP → dV k 9 < 6 → (dV k 9 = 3 → ¬ (1 < DP ∧ 0 < k.c4)) → Ev (G__law_part (F__law_part n) [some (dk k), some N, some R, some (iO DP), none, none, none, none]) (fun fl e => match fl with
          | .ret o => @hq O (List O) ⟨fun o os => ∃ (c : Cn) (k' : Dk), o = .fr c.d ∧ os = [dk k', N, R, .fr (.int DP)] ∧ COk nms regs (dp' + 1) c ∧ 0 ≤ k'.c4 ∧ (c.size : Int) + k'.c4 ≤ 1 + k.c4⟩ o [dk k, N, R, .fr (.int DP)]
          | _ => False) (fun _ _ => False) → True := fun _ _ _ _ => trivial
      clear mats
      by_cases hA : dV k 9 < 3 ∧ 1 < DP
      · obtain ⟨hA1, hA2⟩ := hA
        -- the parts
        have parts : ∀ (kk : Dk) (cnt : Int) (q4 q6 : Option O), 0 ≤ cnt → cnt ≤ kk.c4 → kk.c4 ≤ 100 → ∃ (cs : List Cn) (k5 : Dk), lcL [7] (.n 7) cYes (C__law_part_0 (F__law_part n)) (rngD 0 cnt) [] [some (dk (kk.s4 (kk.c4 - cnt))), some N, some R, some (iO DP), q4, some (iO cnt), q6, none] = some (Cn.ds cs, [some (dk k5), some N, some R, some (iO DP), q4, some (iO cnt), q6, none]) ∧ (∀ c ∈ cs, COk nms regs dp' c) ∧ (cs.length : Int) = cnt ∧ 0 ≤ k5.c4 ∧ (Cn.sizes cs : Int) + k5.c4 ≤ kk.c4 := by
          intro kk cnt q4 q6 h0 h1 h2
          obtain ⟨xs, e', c1, c2, cs, k5, rfl, rfl, c3, c4, c5⟩ := lc_acc (own := [7]) (tg := .n 7) (f := C__law_part_0 (F__law_part n)) (fun acc e => ∃ (cs : List Cn) (k5 : Dk), acc = cs.map Cn.d ∧ e = [some (dk k5), some N, some R, some (iO DP), q4, some (iO cnt), q6, none] ∧ (∀ c ∈ cs, COk nms regs dp' c) ∧ 0 ≤ k5.c4 ∧ (Cn.sizes cs : Int) + k5.c4 ≤ (kk.c4 - cnt) + cs.length) (rngD 0 cnt) [some (dk (kk.s4 (kk.c4 - cnt))), some N, some R, some (iO DP), q4, some (iO cnt), q6, none] (by rw [rngD_len]; omega) (fun d hd acc e ⟨cs, k1, e1, e2, e3, e4, e5⟩ => by
            subst e1 e2
            have hsl := szs_len cs
            obtain ⟨c, k2, p1, p2, p3, p4⟩ := ih k1 dp' (by omega) (by omega) e4 (by omega)
            refine ⟨_, rfl, ?_⟩
            have fin : @hq (List D) Sl ⟨fun acc e => ∃ (cs : List Cn) (k5 : Dk), acc = cs.map Cn.d ∧ e = [some (dk k5), some N, some R, some (iO DP), q4, some (iO cnt), q6, none] ∧ (∀ c ∈ cs, COk nms regs dp' c) ∧ 0 ≤ k5.c4 ∧ (Cn.sizes cs : Int) + k5.c4 ≤ (kk.c4 - cnt) + cs.length⟩ (cs.map Cn.d ++ [c.d]) [some (dk k2), some N, some R, some (iO DP), q4, some (iO cnt), q6, none] := ⟨cs ++ [c], k2, by rw [List.map_append]; rfl, rfl, fun c' hc => (List.mem_append.mp hc).elim (e3 c') fun h => by rw [List.mem_singleton.mp h]; exact p2, p3, by rw [Cn.sizes_app, Cn.sizes, Cn.sizes, List.length_append]; simp only [List.length_cons, List.length_nil]; omega⟩
            show Ev _ (fun (o : O) e3 => @hq (List D) Sl ⟨fun acc e => ∃ (cs : List Cn) (k5 : Dk), acc = cs.map Cn.d ∧ e = [some (dk k5), some N, some R, some (iO DP), q4, some (iO cnt), q6, none] ∧ (∀ c ∈ cs, COk nms regs dp' c) ∧ 0 ≤ k5.c4 ∧ (Cn.sizes cs : Int) + k5.c4 ≤ (kk.c4 - cnt) + cs.length⟩ (cs.map Cn.d ++ [o.d]) (wipeE e3 [7])) _
            unfold C__law_part_0
            clear hd e3 e5 p4
            walk_at "evd") ⟨[], _, rfl, rfl, fun c h => (List.not_mem_nil h).elim, by rw [s4_c4]; omega, by rw [s4_c4]; simp [Cn.sizes]⟩
          rw [List.length_map, rngD_len] at c2
          exact ⟨cs, k5, by rw [c1, Cn.ds_map], c3, by omega, c4, by omega⟩
        -- behind the parts
        have fin : ∀ (cs : List Cn) (w : Bool) (k6 : Dk), (∀ c ∈ cs, COk nms regs dp' c) → 0 ≤ k6.c4 → (Cn.sizes cs : Int) + k6.c4 ≤ k.c4 → @hq O (List O) ⟨fun o os => ∃ (c : Cn) (k' : Dk), o = .fr c.d ∧ os = [dk k', N, R, .fr (.int DP)] ∧ COk nms regs (dp' + 1) c ∧ 0 ≤ k'.c4 ∧ (c.size : Int) + k'.c4 ≤ 1 + k.c4⟩ (.fr (.tup (.str (wNd w) :: Cn.ds cs))) [dk k6, N, R, .fr (.int DP)] := fun cs w k6 h1 h2 h3 => ⟨.nd w cs, k6, by rw [Cn.d], rfl, .nd _ _ _ h1, h2, by rw [Cn.size]; omega⟩
        have ds_len : ∀ cs : List Cn, (Cn.ds cs).length = cs.length := fun cs => by rw [Cn.ds_map, List.length_map]
        have cnt : ∃ (kk : Dk) (cnt : Int), 0 ≤ cnt ∧ kk.c4 = k.c4 ∧ (dV (dN (dN k 9) 4) 12 = 0 ∧ kk = dN (dN (dN (dN k 9) 4) 12) 15 ∧ cnt = 5 + dV (dN (dN (dN k 9) 4) 12) 15 ∨ ¬ dV (dN (dN k 9) 4) 12 = 0 ∧ kk = dN (dN (dN k 9) 4) 12 ∧ cnt = dV (dN k 9) 4) := by
          by_cases h : dV (dN (dN k 9) 4) 12 = 0
          · have := draw_bd (dN (dN (dN k 9) 4) 12) (b := 15) (by omega) (by omega)
            exact ⟨_, _, by omega, by simp only [draw_c4], .inl ⟨h, rfl, rfl⟩⟩
          · have := draw_bd (dN k 9) (b := 4) (by omega) (by omega)
            exact ⟨_, _, by omega, by simp only [draw_c4], .inr ⟨h, rfl, rfl⟩⟩
        obtain ⟨kk, cn0, n0, n1, n2⟩ := cnt
        obtain ⟨cn, m1, m2, m3⟩ : ∃ cn : Int, gMin2 [.int cn0, .int kk.c4] = some (iO cn) ∧ 0 ≤ cn ∧ cn ≤ kk.c4 := by
          rw [gMin2_i]
          by_cases h : kk.c4 < cn0
          · exact ⟨_, by rw [if_pos h], by omega, by omega⟩
          · exact ⟨_, by rw [if_neg h], n0, by omega⟩
        obtain ⟨cs, k5, p1, p2, p3, p4, p5⟩ := parts kk cn (some (iO (dV k 9))) none m2 m3 (by omega)
        have ri : inR cn = true := inR_pos m2 (by omega)
        have bd2 := draw_bd k5 (b := 2) (by omega) (by omega)
        have bd2' := draw_bd (k5.s4 (k5.c4 - 1)) (b := 2) (by omega) (by omega)
        have hw : ∀ v : Int, 0 ≤ v ∧ v < 2 → ∃ w, atI [D.str sAnd, D.str sOr] v = some (.str (wNd w)) := fun v hv => by
          have : v = 0 ∨ v = 1 := by omega
          rcases this with rfl | rfl
          · exact ⟨true, rfl⟩
          · exact ⟨false, rfl⟩
        obtain ⟨w, hw1⟩ := hw _ bd2
        obtain ⟨w', hw1'⟩ := hw _ bd2'
        have sl := szs_len cs
        have lz : 1 + (Cn.ds cs).length ≤ sizeLine := by rw [ds_len, sizeLine_eq]; omega
        have lz' : (Cn.ds cs).length + 1 ≤ sizeLine := by rw [ds_len, sizeLine_eq]; omega
        have lz2 : (Cn.ds cs).length < sizeLine := by rw [ds_len, sizeLine_eq]; omega
        have lz3 : (Cn.ds cs).length + 1 + 1 ≤ sizeLine := by rw [ds_len, sizeLine_eq]; omega
        have f1 := fin cs w (dN k5 2) p2 (by rw [draw_c4]; exact p4) (by rw [draw_c4]; omega)
        -- is the first one taken twice
        by_cases hdo : ∃ c0 cs', cs = c0 :: cs' ∧ 0 < k5.c4 ∧ c0.tl.length + 1 < 4 ∧ c0.w ∈ [sMat, sEmp, sNev]
        · obtain ⟨c0, cs', rfl, q1, q2, q3⟩ := hdo
          have hin : gIn [.str c0.w, .lst [.str (PySem.Str.ofString "matches"), .str (PySem.Str.ofString "empty"), .str (PySem.Str.ofString "never")]] = some (bO (decide (c0.w ∈ [sMat, sEmp, sNev]))) := str_in (z := c0.w) (zs := [sMat, sEmp, sNev]) c0.w_ok (by decide +kernel)
          rw [decide_eq_true q3] at hin
          have hcd := c0.d_e
          have hds : Cn.ds (c0 :: cs') = c0.d :: Cn.ds cs' := by rw [Cn.ds]
          have hds2 : Cn.ds (c0 :: cs' ++ [c0]) = c0.d :: (Cn.ds cs' ++ [c0.d]) := by rw [Cn.ds_map, Cn.ds_map]; simp
          have one := Cn.w_one q3
          have f2 := fin (c0 :: cs' ++ [c0]) w' (dN (k5.s4 (k5.c4 - 1)) 2) (fun c hc => (List.mem_append.mp hc).elim (p2 c) fun h => by rw [List.mem_singleton.mp h]; exact p2 _ List.mem_cons_self) (by rw [draw_c4, s4_c4]; omega) (by rw [draw_c4, s4_c4]; simp only [Cn.sizes_app, Cn.sizes, one] at p5 ⊢; omega)
          have hcn : 0 < cn := by rw [List.length_cons] at p3; omega
          rw [hds2] at f2
          rw [hds] at p1 lz lz' lz2 lz3
          rw [hcd] at p1 f2 lz lz' lz2 lz3
          rw [List.length_cons] at lz lz' lz2 lz3
          have lz4 : 1 + ((Cn.ds cs').length + 1 + 1) ≤ sizeLine := by omega
          have lz5 : (Cn.ds cs').length + 1 + 1 + 1 ≤ sizeLine := by omega
          have q2' : (c0.tl.length : Int) + 1 < 4 := by omega
          clear n1 fin parts flat nat drn ih f1 p2 p3 p5 sl hw bd2 bd2' bd9 hw1 hds hds2 q3 hcd ds_len hk0 hk1 hN hR one
          rcases n2 with ⟨n2, rfl, rfl⟩ | ⟨n2, rfl, rfl⟩
          · walk_at "evd"
            all_goals exact f2
          · walk_at "evd"
            all_goals exact f2
        · -- it is not
          have hno : (¬ 0 < cn) ∨ ∃ c0 cs', cs = c0 :: cs' ∧ (¬ 0 < k5.c4 ∨ ¬ c0.tl.length + 1 < 4 ∨ ¬ c0.w ∈ [sMat, sEmp, sNev]) := by
            by_cases hcn : 0 < cn
            · refine .inr ?_
              cases cs with
              | nil => simp at p3; omega
              | cons c0 cs' =>
                refine ⟨c0, cs', rfl, ?_⟩
                by_cases a1 : 0 < k5.c4
                · by_cases a2 : c0.tl.length + 1 < 4
                  · by_cases a3 : c0.w ∈ [sMat, sEmp, sNev]
                    · exact absurd ⟨c0, cs', rfl, a1, a2, a3⟩ hdo
                    · exact .inr (.inr a3)
                  · exact .inr (.inl a2)
                · exact .inl a1
            · exact .inl hcn
          clear n1 fin parts flat nat drn ih p2 p5 sl hw bd2 bd2' bd9 hw1' hdo hk0 hk1 hN hR
          rcases hno with hcn | ⟨c0, cs', rfl, hno⟩
          · clear p3 ds_len
            rcases n2 with ⟨n2, rfl, rfl⟩ | ⟨n2, rfl, rfl⟩
            · walk_at "evd"
            · walk_at "evd"
          · have hin : gIn [.str c0.w, .lst [.str (PySem.Str.ofString "matches"), .str (PySem.Str.ofString "empty"), .str (PySem.Str.ofString "never")]] = some (bO (decide (c0.w ∈ [sMat, sEmp, sNev]))) := str_in (z := c0.w) (zs := [sMat, sEmp, sNev]) c0.w_ok (by decide +kernel)
            have hcd := c0.d_e
            have hds : Cn.ds (c0 :: cs') = c0.d :: Cn.ds cs' := by rw [Cn.ds]
            have hcn : 0 < cn := by rw [List.length_cons] at p3; omega
            rw [hds] at p1 f1 lz lz' lz2 lz3
            rw [hcd] at p1 f1 lz lz' lz2 lz3
            rw [List.length_cons] at lz lz' lz2 lz3
            clear ds_len hds p3 hcd
            rcases hno with a1 | a1
            · clear hin
              rcases n2 with ⟨n2, rfl, rfl⟩ | ⟨n2, rfl, rfl⟩
              · walk_at "evd"
              · walk_at "evd"
            · by_cases a0 : 0 < k5.c4
              · by_cases a2 : (c0.tl.length : Int) + 1 < 4
                · have a3 : ¬ c0.w ∈ [sMat, sEmp, sNev] := a1.elim (fun z => absurd (by omega) z) id
                  rw [decide_eq_false a3] at hin
                  clear a1 a3
                  rcases n2 with ⟨n2, rfl, rfl⟩ | ⟨n2, rfl, rfl⟩
                  · walk_at "evd"
                    all_goals exact f1
                  · walk_at "evd"
                    all_goals exact f1
                · clear hin a1
                  rcases n2 with ⟨n2, rfl, rfl⟩ | ⟨n2, rfl, rfl⟩
                  · walk_at "evd"
                    all_goals exact f1
                  · walk_at "evd"
                    all_goals exact f1
              · clear hin a1
                rcases n2 with ⟨n2, rfl, rfl⟩ | ⟨n2, rfl, rfl⟩
                · walk_at "evd"
                  all_goals exact f1
                · walk_at "evd"
                  all_goals exact f1
      · have c4e := draw_c4
        by_cases hB : dV k 9 = 3 ∧ 1 < DP ∧ 0 < k.c4
        · obtain ⟨hB1, hB2, hB3⟩ := hB
          obtain ⟨c, k2, p1, p2, p3, p4⟩ := ih ((dN k 9).s4 ((dN k 9).c4 - 1)) dp' (by omega) (by omega) (by rw [s4_c4, draw_c4]; omega) (by rw [s4_c4, draw_c4]; omega)
          rw [s4_c4] at p4
          rw [draw_c4] at p4
          have fin : @hq O (List O) ⟨fun o os => ∃ (c : Cn) (k' : Dk), o = .fr c.d ∧ os = [dk k', N, R, .fr (.int DP)] ∧ COk nms regs (dp' + 1) c ∧ 0 ≤ k'.c4 ∧ (c.size : Int) + k'.c4 ≤ 1 + k.c4⟩ (.fr (.tup [.str sNot, c.d])) [dk k2, N, R, .fr (.int DP)] := ⟨.nt c, k2, by rw [Cn.d], rfl, .nt _ _ p2, p3, by rw [Cn.size]; omega⟩
          rw [draw_c4] at p1
          clear flat nat drn ih p2 p4 bd9 hA
          walk_at "evd"
          all_goals exact fin
        · by_cases hC : dV k 9 < 6
          · obtain ⟨a, am, ha⟩ := nat (dN k 9)
            obtain ⟨z, k2, z1, z2, z3⟩ := dpat_ex (dN (dN k 9) nms.length)
            have f1 := flat (.mat a z) k2 (.mat _ _ _ am z2) rfl (by rw [z3, draw_c4, draw_c4])
            have e1 : (Cn.mat a z).d = .tup [.str sMat, .str a, .str z] := by rw [Cn.d]
            rw [e1] at f1
            have d1 := drn (dN k 9)
            have cA : ¬ (dV k 9 < 3) ∨ ¬ 1 < DP := by
              by_cases h : dV k 9 < 3
              · exact .inr fun z => hA ⟨h, z⟩
              · exact .inl h
            have cB : ¬ dV k 9 = 3 ∨ ¬ 1 < DP ∨ ¬ 0 < k.c4 := by
              by_cases h : dV k 9 = 3
              · by_cases h2 : 1 < DP
                · exact .inr (.inr fun z => hB ⟨h, h2, z⟩)
                · exact .inr (.inl h2)
              · exact .inl h
            clear flat nat drn ih bd9 hA hB z2 z3 am e1 hk0 hk1 hsub hDP hd1 hd2
            rcases cA with cA | cA
            · rcases cB with cB | cB | cB
              · walk_at "evd"
                all_goals exact f1
              · by_cases cB' : dV k 9 = 3
                · rw [cB'] at *
                  walk_at "evd"
                  all_goals exact f1
                · walk_at "evd"
                  all_goals exact f1
              · by_cases cB' : dV k 9 = 3
                · rw [cB'] at *
                  by_cases cD : 1 < DP
                  · walk_at "evd"
                    all_goals exact f1
                  · walk_at "evd"
                    all_goals exact f1
                · walk_at "evd"
                  all_goals exact f1
            · by_cases cB' : dV k 9 = 3
              · rw [cB'] at *
                walk_at "evd"
                all_goals exact f1
              · by_cases cA' : dV k 9 < 3
                · walk_at "evd"
                  all_goals exact f1
                · walk_at "evd"
                  all_goals exact f1
          · have n3 : ¬ dV k 9 < 3 := by omega
            have n33 : ¬ dV k 9 = 3 := by omega
            by_cases h6 : dV k 9 = 6
            · obtain ⟨a, am, ha⟩ := nat (dN k 9)
              obtain ⟨b, bm, hb⟩ := nat (dN (dN k 9) nms.length)
              have f1 := flat (.sam a b) (dN (dN (dN k 9) nms.length) nms.length) (.sam _ _ _ am bm) rfl (by simp only [draw_c4])
              have e1 : (Cn.sam a b).d = .tup [.str sSam, .str a, .str b] := by rw [Cn.d]
              rw [e1] at f1
              have d1 := drn (dN k 9)
              have d2 := drn (dN (dN k 9) nms.length)
              clear flat nat drn ih bd9 hA hB am bm e1 hk0 hk1 hsub hDP hd1 hd2 hC n3 n33
              walk_at "evd"
              all_goals exact f1
            · have bdw := draw_bd (dN k 9) (b := 2) (by omega) (by omega)
              have hw : ∃ w, atI [D.str sAlw, D.str sNev] (dV (dN k 9) 2) = some (.str (wAt w)) := by
                have : dV (dN k 9) 2 = 0 ∨ dV (dN k 9) 2 = 1 := by omega
                rcases this with h | h
                · rw [h]; exact ⟨true, rfl⟩
                · rw [h]; exact ⟨false, rfl⟩
              obtain ⟨w, hw⟩ := hw
              have f2 := flat (.at0 w) (dN (dN k 9) 2) (.at0 _ _) rfl (by simp only [draw_c4])
              have e2 : (Cn.at0 w).d = .tup [.str (wAt w)] := by rw [Cn.d]
              rw [e2] at f2
              by_cases h7 : dV k 9 = 7
              · by_cases hr : 0 < regs.length
                · have b := draw_bd (dN k 9) (b := (regs.length : Int)) (by omega) (by omega)
                  obtain ⟨a, am, ha⟩ := strs_at regs b.1 b.2
                  have f1 := flat (.emp a) (dN (dN k 9) regs.length) (.emp _ _ am) rfl (by simp only [draw_c4])
                  have e1 : (Cn.emp a).d = .tup [.str sEmp, .str a] := by rw [Cn.d]
                  rw [e1] at f1
                  have d1 := draw_ok (dN k 9) regs.length (by omega) (by omega)
                  have hr' : ¬ regs.length = 0 := by omega
                  clear flat nat drn ih bd9 hA hB am e1 hk0 hk1 hsub hDP hd1 hd2 hC n3 n33 h6 f2 e2 hw bdw b
                  walk_at "evd"
                  all_goals exact f1
                · clear flat nat drn ih bd9 hA hB hk0 hk1 hsub hDP hd1 hd2 hC n3 n33 h6 e2 bdw
                  walk_at "evd"
                  all_goals exact f2
              · clear flat nat drn ih bd9 hA hB hk0 hk1 hsub hDP hd1 hd2 e2 bdw
                walk_at "evd"
                all_goals exact f2
    obtain ⟨o, os, h, c, k', rfl, rfl, h1⟩ := H.get
    exact ⟨c, k', h, h1⟩
theorem dcond_ex (N R : O) (nms regs : List Str) (hN : N.d = .lst (nms.map .str)) (hR : R.d = .lst (regs.map .str)) (hn0 : 0 < nms.length) (hnl : nms.length ≤ 100) (hrl : regs.length ≤ 100) (k : Dk) (dp : Nat) (h1 : 1 ≤ dp) (h2 : dp ≤ 40) :
    ∃ (c : Cn) (k' : Dk), F__law_condition [dk k, N, R, .fr (.int dp)] = some (.ok (.fr c.d) [dk k', N, R, .fr (.int dp)]) ∧ COk nms regs dp c ∧ c.size ≤ 20 := by
  have H : FEv (F__law_condition [dk k, N, R, .fr (.int dp)]) (@hq _ _ ⟨fun o os => ∃ (c : Cn) (k' : Dk), o = .fr c.d ∧ os = [dk k', N, R, .fr (.int dp)] ∧ COk nms regs dp c ∧ c.size ≤ 20⟩) (fun _ _ => False) := by
    obtain ⟨c, k', p1, p2, p3, p4⟩ := dpart_ex N R nms regs hN hR hn0 hnl hrl 40 (k.s4 19) dp h1 h2 (by rw [s4_c4]; omega) (by rw [s4_c4]; omega)
    rw [s4_c4] at p4
    have p5 : c.size ≤ 20 := by omega
    unfold F__law_condition G__law_condition
    clear p4 p3 hN hR
    walk_at "evd"
    exact hqi ⟨c, k', rfl, rfl, p2, p5⟩
  obtain ⟨o, os, h, c, k', rfl, rfl, h1⟩ := H.get
  exact ⟨c, k', h, h1⟩
/-- the conditions directly inside -/
def Cn.parts : Cn → List Cn
  | .nt c => [c]
  | .nd _ cs => cs
  | _ => []
theorem COk.dp {N R : List Str} {n : Nat} {c : Cn} (h : COk N R n c) : ∃ m, n = m + 1 ∧ ∀ p ∈ c.parts, COk N R m p := by
  cases h with
  | at0 m w => exact ⟨m, rfl, fun p hp => (List.not_mem_nil hp).elim⟩
  | mat m a p _ _ => exact ⟨m, rfl, fun p hp => (List.not_mem_nil hp).elim⟩
  | sam m a b _ _ => exact ⟨m, rfl, fun p hp => (List.not_mem_nil hp).elim⟩
  | emp m a _ => exact ⟨m, rfl, fun p hp => (List.not_mem_nil hp).elim⟩
  | nt m c h => exact ⟨m, rfl, fun p hp => by rw [List.mem_singleton.mp hp]; exact h⟩
  | nd m w cs h => exact ⟨m, rfl, h⟩
theorem Cn.wb (c : Cn) : (c.w ∈ [sAnd, sOr, sNot]) ∨ ¬ c.w ∈ [sAnd, sOr, sNot] := Decidable.em _
theorem Cn.w_in {c : Cn} : (c.w ∈ [sAnd, sOr, sNot] → c.tl = c.parts.map Cn.d) ∧ (¬ c.w ∈ [sAnd, sOr, sNot] → c.parts = []) := by
  cases c with
  | at0 w => exact ⟨fun h => absurd h (by show ¬ wAt w ∈ _; cases w <;> decide +kernel), fun _ => rfl⟩
  | mat _ _ => exact ⟨fun h => absurd h (by show ¬ sMat ∈ _; decide +kernel), fun _ => rfl⟩
  | sam _ _ => exact ⟨fun h => absurd h (by show ¬ sSam ∈ _; decide +kernel), fun _ => rfl⟩
  | emp _ => exact ⟨fun h => absurd h (by show ¬ sEmp ∈ _; decide +kernel), fun _ => rfl⟩
  | nt c => exact ⟨fun _ => rfl, fun h => absurd (by show sNot ∈ _; decide +kernel) h⟩
  | nd w cs => exact ⟨fun _ => Cn.ds_map cs, fun h => absurd (by show wNd w ∈ _; cases w <;> decide +kernel) h⟩
theorem str_inT {z : Str} {zs : List Str} (hz : ∀ c ∈ zl z, c < 1114112) (hs : ∀ y ∈ zs, ∀ c ∈ zl y, c < 1114112) : gIn [.str z, .tup (zs.map .str)] = some (bO (decide (z ∈ zs))) := by
  have s2 : shp (.tup (zs.map .str)) = true := (shp_tup (k := 0) fun x hx => let ⟨y, hy, e⟩ := List.mem_map.mp hx; e ▸ shp_str (hs y hy)).shp (by omega)
  rw [gIn_t (shp_z hz) s2]
  congr 2
  have := inL_pl (x := .str z) (ds := zs.map .str) (by rw [D.pl]) fun d hd => let ⟨y, hy, e⟩ := List.mem_map.mp hd; e ▸ (by rw [D.pl])
  have h2 : D.str z ∈ zs.map D.str ↔ z ∈ zs := by
    rw [List.mem_map]
    exact ⟨fun ⟨y, hy, e⟩ => by injection e with e; exact e ▸ hy, fun h => ⟨z, h, rfl⟩⟩
  rw [h2] at this
  by_cases h : z ∈ zs
  · rw [decide_eq_true h]; exact this.mpr h
  · rw [decide_eq_false h]; exact Bool.eq_false_iff.mpr fun w => h (this.mp w)
theorem cut1_c {x : D} {xs : List D} : cutD (x :: xs) (some 1) none = xs := by rw [cutD_1]; rfl
theorem Cn.w_mat {c : Cn} (h : c.w = sMat) : ∃ n p, c = .mat n p := by
  cases c with
  | mat n p => exact ⟨n, p, rfl⟩
  | at0 w => exact absurd h (by show wAt w ≠ _; cases w <;> decide +kernel)
  | sam _ _ => exact absurd h (by show sSam ≠ _; decide +kernel)
  | emp _ => exact absurd h (by show sEmp ≠ _; decide +kernel)
  | nt _ => exact absurd h (by show sNot ≠ _; decide +kernel)
  | nd w _ => exact absurd h (by show wNd w ≠ _; cases w <;> decide +kernel)
theorem D.pl_tup {ds : List D} (h : ∀ d ∈ ds, d.pl = true) : (D.tup ds).pl = true := by rw [D.pl]; exact D.pls_of h
theorem cok_shp {N R : List Str} (hN : ∀ z ∈ N, LtrZ z) (hR : ∀ z ∈ R, LtrZ z) : ∀ {n : Nat} {c : Cn}, COk N R n c → Shp (n + 1) c.d ∧ c.d.pl = true
  | n + 1, .at0 w, _ => by
    rw [Cn.d]
    have hw : ∀ x ∈ zl (wAt w), x < 1114112 := by cases w <;> decide +kernel
    exact ⟨shp_tup fun x hx => by rw [List.mem_singleton.mp hx]; exact (shp_str hw).mono (by omega), D.pl_tup fun x hx => by rw [List.mem_singleton.mp hx, D.pl]⟩
  | n + 1, .mat a p, h => by
    rw [Cn.d]
    cases h with
    | mat _ _ _ ha hp =>
      refine ⟨shp_tup fun x hx => ?_, D.pl_tup fun x hx => ?_⟩
      · simp only [List.mem_cons, List.not_mem_nil, or_false] at hx
        rcases hx with rfl | rfl | rfl
        · exact (shp_str (by decide +kernel)).mono (by omega)
        · exact (shp_str (hN a ha).ok).mono (by omega)
        · exact (shp_str hp.ok).mono (by omega)
      · simp only [List.mem_cons, List.not_mem_nil, or_false] at hx
        rcases hx with rfl | rfl | rfl <;> rw [D.pl]
  | n + 1, .sam a b, h => by
    rw [Cn.d]
    cases h with
    | sam _ _ _ ha hb =>
      refine ⟨shp_tup fun x hx => ?_, D.pl_tup fun x hx => ?_⟩
      · simp only [List.mem_cons, List.not_mem_nil, or_false] at hx
        rcases hx with rfl | rfl | rfl
        · exact (shp_str (by decide +kernel)).mono (by omega)
        · exact (shp_str (hN a ha).ok).mono (by omega)
        · exact (shp_str (hN b hb).ok).mono (by omega)
      · simp only [List.mem_cons, List.not_mem_nil, or_false] at hx
        rcases hx with rfl | rfl | rfl <;> rw [D.pl]
  | n + 1, .emp a, h => by
    rw [Cn.d]
    cases h with
    | emp _ _ ha =>
      refine ⟨shp_tup fun x hx => ?_, D.pl_tup fun x hx => ?_⟩
      · simp only [List.mem_cons, List.not_mem_nil, or_false] at hx
        rcases hx with rfl | rfl
        · exact (shp_str (by decide +kernel)).mono (by omega)
        · exact (shp_str (hR a ha).ok).mono (by omega)
      · simp only [List.mem_cons, List.not_mem_nil, or_false] at hx
        rcases hx with rfl | rfl <;> rw [D.pl]
  | n + 1, .nt c, h => by
    rw [Cn.d]
    cases h with
    | nt _ _ hc =>
      have ih := cok_shp hN hR hc
      refine ⟨shp_tup fun x hx => ?_, D.pl_tup fun x hx => ?_⟩
      · simp only [List.mem_cons, List.not_mem_nil, or_false] at hx
        rcases hx with rfl | rfl
        · exact (shp_str (by decide +kernel)).mono (by omega)
        · exact ih.1
      · simp only [List.mem_cons, List.not_mem_nil, or_false] at hx
        rcases hx with rfl | rfl
        · rw [D.pl]
        · exact ih.2
  | n + 1, .nd w cs, h => by
    rw [Cn.d, Cn.ds_map]
    cases h with
    | nd _ _ _ hc =>
      have hw : ∀ x ∈ zl (wNd w), x < 1114112 := by cases w <;> decide +kernel
      refine ⟨shp_tup fun x hx => ?_, D.pl_tup fun x hx => ?_⟩
      · rcases List.mem_cons.mp hx with rfl | hx
        · exact (shp_str hw).mono (by omega)
        · obtain ⟨c, hcm, rfl⟩ := List.mem_map.mp hx
          exact (cok_shp hN hR (hc c hcm)).1
      · rcases List.mem_cons.mp hx with rfl | hx
        · rw [D.pl]
        · obtain ⟨c, hcm, rfl⟩ := List.mem_map.mp hx
          exact (cok_shp hN hR (hc c hcm)).2
theorem COk.mono {N R : List Str} : ∀ {n m : Nat} {c : Cn}, COk N R n c → n ≤ m → COk N R m c
  | n + 1, 0, _, _, h => by omega
  | n + 1, m + 1, .at0 w, _, _ => .at0 _ _
  | n + 1, m + 1, .mat a p, h, _ => by cases h with | mat _ _ _ ha hp => exact .mat _ _ _ ha hp
  | n + 1, m + 1, .sam a b, h, _ => by cases h with | sam _ _ _ ha hp => exact .sam _ _ _ ha hp
  | n + 1, m + 1, .emp a, h, _ => by cases h with | emp _ _ ha => exact .emp _ _ ha
  | n + 1, m + 1, .nt c, h, hm => by cases h with | nt _ _ hc => exact .nt _ _ (hc.mono (by omega))
  | n + 1, m + 1, .nd w cs, h, hm => by cases h with | nd _ _ _ hc => exact .nd _ _ _ fun c hcm => (hc c hcm).mono (by omega)
/-! normal forms, plainly -/
section
open Classical
/-- the first of equal ones -/
noncomputable def ddA : List Cn → List Cn → List Cn
  | acc, [] => acc
  | acc, x :: xs => if x ∈ acc then ddA acc xs else ddA (acc ++ [x]) xs
/-- the members that a normal form gives -/
def pc (w : Bool) : Cn → List Cn
  | .nd w' ms => if w' = w then ms else [.nd w' ms]
  | f => [f]
def ntF : Cn → Cn
  | .at0 b => .at0 (!b)
  | .nt c => c
  | f => .nt f
noncomputable def fl (w : Bool) (xs : List Cn) : List Cn := xs.filter fun x => decide (x ≠ .at0 w)
def jnL (w : Bool) : List Cn → Cn
  | [] => .at0 w
  | [x] => x
  | ms => .nd w ms
noncomputable def jn (w : Bool) (raw : List Cn) : Cn := if Cn.at0 (!w) ∈ raw then .at0 (!w) else jnL w (fl w (ddA [] raw))
mutual
noncomputable def Cn.nrm : Cn → Cn
  | .nt c => ntF (Cn.nrm c)
  | .nd w cs => jn w (Cn.raws w cs)
  | .at0 w => .at0 w
  | .mat a p => .mat a p
  | .sam a b => .sam a b
  | .emp a => .emp a
noncomputable def Cn.raws (w : Bool) : List Cn → List Cn
  | [] => []
  | c :: cs => pc w (Cn.nrm c) ++ Cn.raws w cs
end
theorem raws_app (w : Bool) : ∀ a b : List Cn, Cn.raws w (a ++ b) = Cn.raws w a ++ Cn.raws w b
  | [], b => by simp [Cn.raws]
  | x :: a, b => by rw [List.cons_append, Cn.raws, Cn.raws, raws_app w a b, List.append_assoc]
theorem ddA_app : ∀ (a x y : List Cn), ddA a (x ++ y) = ddA (ddA a x) y
  | a, [], y => by simp [ddA]
  | a, x :: xs, y => by
    rw [List.cons_append, ddA, ddA]
    by_cases h : x ∈ a
    · rw [if_pos h, if_pos h, ddA_app]
    · rw [if_neg h, if_neg h, ddA_app]
theorem ddA_mem {x : Cn} : ∀ (a xs : List Cn), x ∈ ddA a xs ↔ x ∈ a ∨ x ∈ xs
  | a, [] => by simp [ddA]
  | a, y :: ys => by
    rw [ddA]
    by_cases h : y ∈ a
    · rw [if_pos h, ddA_mem, List.mem_cons]
      exact ⟨fun z => z.elim .inl fun z => .inr (.inr z), fun z => z.elim .inl fun z => z.elim (fun e => .inl (e ▸ h)) .inr⟩
    · rw [if_neg h, ddA_mem, List.mem_append, List.mem_singleton, List.mem_cons, or_assoc]
theorem ddA_nodup : ∀ (a xs : List Cn), a.Nodup → (ddA a xs).Nodup
  | a, [], h => by rw [ddA]; exact h
  | a, y :: ys, h => by
    rw [ddA]
    by_cases hy : y ∈ a
    · rw [if_pos hy]; exact ddA_nodup a ys h
    · rw [if_neg hy]
      refine ddA_nodup _ ys (List.nodup_append.mpr ⟨h, by simp, fun x hx z hz => ?_⟩)
      rw [List.mem_singleton.mp hz]
      rintro rfl
      exact hy hx
theorem ddA_len : ∀ (a xs : List Cn), (ddA a xs).length ≤ a.length + xs.length
  | a, [] => by rw [ddA]; simp
  | a, y :: ys => by
    rw [ddA, List.length_cons]
    by_cases hy : y ∈ a
    · rw [if_pos hy]; have := ddA_len a ys; omega
    · rw [if_neg hy]; have := ddA_len (a ++ [y]) ys; rw [List.length_append] at this; simp only [List.length_cons, List.length_nil] at this; omega
theorem ddA_dis : ∀ (a xs : List Cn), xs.Nodup → (∀ x ∈ xs, x ∉ a) → ddA a xs = a ++ xs
  | a, [], _, _ => by rw [ddA, List.append_nil]
  | a, y :: ys, h, hd => by
    rw [ddA, if_neg (hd y List.mem_cons_self), ddA_dis _ ys (List.nodup_cons.mp h).2 fun x hx => ?_]
    · rw [List.append_assoc]; rfl
    · intro hm
      rcases List.mem_append.mp hm with hm | hm
      · exact hd x (List.mem_cons_of_mem _ hx) hm
      · rw [List.mem_singleton.mp hm] at hx
        exact (List.nodup_cons.mp h).1 hx
theorem ddA_all : ∀ (a xs : List Cn), (∀ x ∈ xs, x ∈ a) → ddA a xs = a
  | a, [], _ => by rw [ddA]
  | a, y :: ys, h => by rw [ddA, if_pos (h y List.mem_cons_self), ddA_all a ys fun x hx => h x (List.mem_cons_of_mem _ hx)]
/-- first made different alone, then behind others -/
theorem ddA_ddA : ∀ (xs b a : List Cn), ddA b (ddA a xs) = ddA (ddA b a) xs
  | [], b, a => by rw [ddA, ddA]
  | x :: xs, b, a => by
    rw [ddA]
    by_cases h : x ∈ a
    · rw [if_pos h, ddA_ddA xs b a]
      conv => rhs; rw [ddA, if_pos ((ddA_mem b a).mpr (.inr h))]
    · rw [if_neg h, ddA_ddA xs b (a ++ [x]), ddA_app, ← ddA_app _ [x] xs]
      rfl
theorem fl_mem {w : Bool} {x : Cn} {xs : List Cn} : x ∈ fl w xs ↔ x ∈ xs ∧ x ≠ .at0 w := by unfold fl; rw [List.mem_filter, decide_eq_true_eq]
theorem fl_app (w : Bool) (a b : List Cn) : fl w (a ++ b) = fl w a ++ fl w b := by unfold fl; rw [List.filter_append]
theorem fl_id {w : Bool} {xs : List Cn} (h : Cn.at0 w ∉ xs) : fl w xs = xs := by
  unfold fl
  rw [List.filter_eq_self]
  intro x hx
  rw [decide_eq_true_eq]
  rintro rfl
  exact h hx
theorem fl_dd (w : Bool) : ∀ (xs a : List Cn), fl w (ddA a xs) = ddA (fl w a) (fl w xs)
  | [], a => by rw [ddA]; show _ = ddA _ []; rw [ddA]
  | x :: xs, a => by
    have e : fl w (x :: xs) = if x ≠ .at0 w then x :: fl w xs else fl w xs := by
      unfold fl
      rw [List.filter_cons]
      by_cases h : x = .at0 w <;> simp [h]
    rw [e]
    by_cases hx : x = .at0 w
    · rw [if_neg (fun z => z hx), ddA]
      by_cases h : x ∈ a
      · rw [if_pos h, fl_dd w xs a]
      · rw [if_neg h, fl_dd w xs _, fl_app]
        have : fl w [x] = [] := by unfold fl; simp [hx]
        rw [this, List.append_nil]
    · rw [if_pos hx, ddA, ddA]
      by_cases h : x ∈ a
      · rw [if_pos h, if_pos (fl_mem.mpr ⟨h, hx⟩), fl_dd w xs a]
      · rw [if_neg h, if_neg (fun z => h (fl_mem.mp z).1), fl_dd w xs _, fl_app]
        have : fl w [x] = [x] := by unfold fl; simp [hx]
        rw [this]
theorem fl_nodup {w : Bool} {xs : List Cn} (h : xs.Nodup) : (fl w xs).Nodup := h.sublist List.filter_sublist
/-- the same members, but for the neutral one -/
def Sim (w : Bool) (r r' : List Cn) : Prop := (Cn.at0 (!w) ∈ r ↔ Cn.at0 (!w) ∈ r') ∧ (Cn.at0 (!w) ∉ r → ∀ b, ddA b (fl w r) = ddA b (fl w r'))
theorem Sim.refl (w : Bool) (r : List Cn) : Sim w r r := ⟨Iff.rfl, fun _ _ => rfl⟩
theorem Sim.app {w : Bool} {a a' b b' : List Cn} (h : Sim w a a') (k : Sim w b b') : Sim w (a ++ b) (a' ++ b') := by
  refine ⟨by rw [List.mem_append, List.mem_append, h.1, k.1], fun hn c => ?_⟩
  rw [List.mem_append, not_or] at hn
  rw [fl_app, fl_app, ddA_app, ddA_app, h.2 hn.1, k.2 hn.2]
theorem Sim.jn {w : Bool} {r r' : List Cn} (h : Sim w r r') : jn w r = jn w r' := by
  unfold Lw.jn
  by_cases hf : Cn.at0 (!w) ∈ r
  · rw [if_pos hf, if_pos (h.1.mp hf)]
  · rw [if_neg hf, if_neg (fun z => hf (h.1.mpr z)), fl_dd, fl_dd]
    have := h.2 hf (fl w [])
    rw [this]
theorem not_ne (w : Bool) : Cn.at0 (!w) ≠ .at0 w := by cases w <;> simp
theorem pc_one {w : Bool} {c : Cn} (h : ∀ cs, c ≠ .nd w cs) : pc w c = [c] := by
  unfold pc
  split
  · rename_i w' ms
    split
    · rename_i e; subst e; exact absurd rfl (h _)
    · rfl
  · rfl
/-- the members of a nested one of the same word stand for themselves -/
theorem sim_nest {w : Bool} {r r' : List Cn} (h : Sim w r r') (hr : ∀ x ∈ r', ∀ cs, x ≠ .nd w cs) : Sim w r (pc w (jn w r')) := by
  unfold Lw.jn
  by_cases hf : Cn.at0 (!w) ∈ r
  · rw [if_pos (h.1.mp hf)]
    exact ⟨⟨fun _ => by simp [pc], fun _ => hf⟩, fun z => absurd hf z⟩
  · have hf' : Cn.at0 (!w) ∉ r' := fun z => hf (h.1.mpr z)
    rw [if_neg hf']
    have key : ∀ b, ddA b (fl w (ddA [] r')) = ddA b (fl w r') := fun b => by
      rw [fl_dd, ddA_ddA]
      have : fl w ([] : List Cn) = [] := rfl
      rw [this, ddA]
    have mem : ∀ x, x ∈ fl w (ddA [] r') → x ∈ r' := fun x hx => by
      have := (fl_mem.mp hx).1
      rw [ddA_mem] at this
      exact this.elim (fun z => (List.not_mem_nil z).elim) id
    have nn : Cn.at0 w ∉ fl w (ddA [] r') := fun z => (fl_mem.mp z).2 rfl
    generalize fl w (ddA [] r') = m at *
    have hm : Cn.at0 (!w) ∉ m := fun z => hf' (mem _ z)
    cases m with
    | nil =>
      refine ⟨⟨fun z => absurd z hf, fun z => ?_⟩, fun _ b => ?_⟩
      · simp only [jnL, pc, List.mem_singleton] at z
        exact absurd z (not_ne w)
      · rw [h.2 hf b, ← key b]
        have : fl w (pc w (jnL w [])) = [] := by simp [jnL, pc, fl]
        rw [this]
    | cons x xs =>
      cases xs with
      | nil =>
        have e : pc w (jnL w [x]) = [x] := by
          exact pc_one (hr x (mem x List.mem_cons_self))
        rw [e]
        refine ⟨⟨fun z => absurd z hf, fun z => absurd z hm⟩, fun _ b => ?_⟩
        rw [h.2 hf b, ← key b, fl_id nn]
      | cons y ys =>
        have e : pc w (jnL w (x :: y :: ys)) = x :: y :: ys := by simp [jnL, pc]
        rw [e]
        refine ⟨⟨fun z => absurd z hf, fun z => absurd z hm⟩, fun _ b => ?_⟩
        rw [h.2 hf b, ← key b, fl_id nn]
/-- normal forms -/
inductive NF : Cn → Prop
  | at0 (b : Bool) : NF (.at0 b)
  | mat (a p : Str) : NF (.mat a p)
  | sam (a b : Str) : NF (.sam a b)
  | emp (a : Str) : NF (.emp a)
  | nt (c : Cn) : NF c → (∀ d, c ≠ .nt d) → (∀ b, c ≠ .at0 b) → NF (.nt c)
  | nd (w : Bool) (ms : List Cn) : 2 ≤ ms.length → ms.Nodup → (∀ m ∈ ms, NF m) → (∀ m ∈ ms, ∀ b, m ≠ .at0 b) → (∀ m ∈ ms, ∀ cs, m ≠ .nd w cs) → NF (.nd w ms)
theorem pc_nf {w : Bool} {c : Cn} (h : NF c) : ∀ m ∈ pc w c, NF m ∧ ∀ cs, m ≠ .nd w cs := by
  cases h with
  | nd w' ms h1 h2 h3 h4 h5 =>
    unfold pc
    by_cases e : w' = w
    · subst e
      simp only [if_true]
      exact fun m hm => ⟨h3 m hm, h5 m hm⟩
    · simp only [if_neg e]
      intro m hm
      rw [List.mem_singleton.mp hm]
      exact ⟨.nd _ _ h1 h2 h3 h4 h5, fun cs z => by injection z with z1 z2; exact e z1⟩
  | at0 b => intro m hm; simp only [pc, List.mem_singleton] at hm; subst hm; exact ⟨.at0 _, fun cs z => by cases z⟩
  | mat a p => intro m hm; simp only [pc, List.mem_singleton] at hm; subst hm; exact ⟨.mat _ _, fun cs z => by cases z⟩
  | sam a b => intro m hm; simp only [pc, List.mem_singleton] at hm; subst hm; exact ⟨.sam _ _, fun cs z => by cases z⟩
  | emp a => intro m hm; simp only [pc, List.mem_singleton] at hm; subst hm; exact ⟨.emp _, fun cs z => by cases z⟩
  | nt c h1 h2 h3 => intro m hm; simp only [pc, List.mem_singleton] at hm; subst hm; exact ⟨.nt _ h1 h2 h3, fun cs z => by cases z⟩
theorem jn_nf {w : Bool} {r : List Cn} (h : ∀ m ∈ r, NF m ∧ ∀ cs, m ≠ .nd w cs) : NF (jn w r) := by
  unfold jn
  by_cases hf : Cn.at0 (!w) ∈ r
  · rw [if_pos hf]; exact .at0 _
  · rw [if_neg hf]
    have mem : ∀ x, x ∈ fl w (ddA [] r) → x ∈ r := fun x hx => by
      have := (fl_mem.mp hx).1
      rw [ddA_mem] at this
      exact this.elim (fun z => (List.not_mem_nil z).elim) id
    have nn : Cn.at0 w ∉ fl w (ddA [] r) := fun z => (fl_mem.mp z).2 rfl
    have nd : (fl w (ddA [] r)).Nodup := fl_nodup (ddA_nodup [] r List.nodup_nil)
    generalize fl w (ddA [] r) = m at *
    match m with
    | [] => exact .at0 _
    | [x] => exact (h x (mem x List.mem_cons_self)).1
    | x :: y :: ys =>
      refine .nd w _ (by simp) nd (fun m hm => (h m (mem m hm)).1) (fun m hm b z => ?_) fun m hm => (h m (mem m hm)).2
      subst z
      by_cases e : b = w
      · subst e; exact nn hm
      · have : b = !w := by cases b <;> cases w <;> simp at e ⊢
        subst this
        exact hf (mem _ hm)
mutual
theorem nrm_nf : ∀ c : Cn, NF c.nrm
  | .at0 w => by rw [Cn.nrm]; exact .at0 _
  | .mat _ _ => by rw [Cn.nrm]; exact .mat _ _
  | .sam _ _ => by rw [Cn.nrm]; exact .sam _ _
  | .emp _ => by rw [Cn.nrm]; exact .emp _
  | .nt c => by
    have h := nrm_nf c
    rw [Cn.nrm]
    generalize c.nrm = f at *
    cases h with
    | at0 b => exact .at0 _
    | nt d h1 h2 h3 => exact h1
    | mat a p => exact .nt _ (.mat _ _) (fun d z => by cases z) fun d z => by cases z
    | sam a p => exact .nt _ (.sam _ _) (fun d z => by cases z) fun d z => by cases z
    | emp a => exact .nt _ (.emp _) (fun d z => by cases z) fun d z => by cases z
    | nd w ms h1 h2 h3 h4 h5 => exact .nt _ (.nd _ _ h1 h2 h3 h4 h5) (fun d z => by cases z) fun d z => by cases z
  | .nd w cs => by rw [Cn.nrm]; exact jn_nf (raws_nf w cs)
theorem raws_nf (w : Bool) : ∀ cs : List Cn, ∀ m ∈ Cn.raws w cs, NF m ∧ ∀ ds, m ≠ .nd w ds
  | [] => by rw [Cn.raws]; exact fun m h => (List.not_mem_nil h).elim
  | c :: cs => by
    rw [Cn.raws]
    intro m hm
    rcases List.mem_append.mp hm with hm | hm
    · exact pc_nf (nrm_nf c) m hm
    · exact raws_nf w cs m hm
end
mutual
theorem nf_nrm : ∀ c : Cn, NF c → c.nrm = c
  | .at0 _, _ => by rw [Cn.nrm]
  | .mat _ _, _ => by rw [Cn.nrm]
  | .sam _ _, _ => by rw [Cn.nrm]
  | .emp _, _ => by rw [Cn.nrm]
  | .nt c, h => by
    cases h with
    | nt _ h1 h2 h3 =>
      rw [Cn.nrm, nf_nrm c h1]
      unfold ntF
      split
      · exact absurd rfl (h3 _)
      · exact absurd rfl (h2 _)
      · rfl
  | .nd w ms, h => by
    cases h with
    | nd _ _ h1 h2 h3 h4 h5 =>
      rw [Cn.nrm, nf_raws w ms h3 h5]
      unfold jn
      rw [if_neg (fun z => h4 _ z _ rfl), ddA_dis [] ms h2 (fun x _ z => (List.not_mem_nil z).elim), List.nil_append, fl_id (fun z => h4 _ z _ rfl)]
      match ms, h1 with
      | x :: y :: r, _ => rfl
theorem nf_raws (w : Bool) : ∀ cs : List Cn, (∀ m ∈ cs, NF m) → (∀ m ∈ cs, ∀ ds, m ≠ .nd w ds) → Cn.raws w cs = cs
  | [], _, _ => by rw [Cn.raws]
  | c :: cs, h, k => by
    rw [Cn.raws, nf_nrm c (h c List.mem_cons_self), pc_one (k c List.mem_cons_self), nf_raws w cs (fun m hm => h m (List.mem_cons_of_mem _ hm)) fun m hm => k m (List.mem_cons_of_mem _ hm)]
    rfl
end
/-! depth and size -/
theorem pc_cok {N R : List Str} {n : Nat} {w : Bool} {c : Cn} (h : COk N R n c) : ∀ m ∈ pc w c, COk N R n m := by
  unfold pc
  split
  · rename_i w' ms
    split
    · cases h with
      | nd n _ _ h => exact fun m hm => (h m hm).mono (by omega)
    · exact fun m hm => by rw [List.mem_singleton.mp hm]; exact h
  · exact fun m hm => by rw [List.mem_singleton.mp hm]; exact h
theorem jn_cok {N R : List Str} {n : Nat} {w : Bool} {r : List Cn} (h : ∀ m ∈ r, COk N R n m) : COk N R (n + 1) (jn w r) := by
  unfold jn
  by_cases hf : Cn.at0 (!w) ∈ r
  · rw [if_pos hf]; exact .at0 _ _
  · rw [if_neg hf]
    have mem : ∀ x, x ∈ fl w (ddA [] r) → x ∈ r := fun x hx => by
      have := (fl_mem.mp hx).1
      rw [ddA_mem] at this
      exact this.elim (fun z => (List.not_mem_nil z).elim) id
    generalize fl w (ddA [] r) = m at *
    match m with
    | [] => exact .at0 _ _
    | [x] => exact (h x (mem x List.mem_cons_self)).mono (by omega)
    | x :: y :: ys => exact .nd _ _ _ fun m hm => h m (mem m hm)
theorem cok_pos {N R : List Str} {n : Nat} {c : Cn} (h : COk N R n c) : 1 ≤ n := by cases h <;> omega
theorem ntF_cok {N R : List Str} {n : Nat} {c : Cn} (h : COk N R n c) : COk N R (n + 1) (ntF c) := by
  unfold ntF
  split
  · exact .at0 _ _
  · cases h with
    | nt n _ h => exact h.mono (by omega)
  · exact .nt _ _ h
mutual
theorem nrm_cok {N R : List Str} : ∀ (c : Cn) (n : Nat), COk N R n c → COk N R n c.nrm
  | .at0 w, n, h => by rw [Cn.nrm]; exact h
  | .mat _ _, n, h => by rw [Cn.nrm]; exact h
  | .sam _ _, n, h => by rw [Cn.nrm]; exact h
  | .emp _, n, h => by rw [Cn.nrm]; exact h
  | .nt c, n, h => by
    cases h with
    | nt n _ h => rw [Cn.nrm]; exact ntF_cok (nrm_cok c n h)
  | .nd w cs, n, h => by
    cases h with
    | nd n _ _ h => rw [Cn.nrm]; exact jn_cok (raws_cok w cs n h)
theorem raws_cok {N R : List Str} (w : Bool) : ∀ (cs : List Cn) (n : Nat), (∀ c ∈ cs, COk N R n c) → ∀ m ∈ Cn.raws w cs, COk N R n m
  | [], n, _ => by rw [Cn.raws]; exact fun m h => (List.not_mem_nil h).elim
  | c :: cs, n, h => by
    rw [Cn.raws]
    intro m hm
    rcases List.mem_append.mp hm with hm | hm
    · exact pc_cok (nrm_cok c n (h c List.mem_cons_self)) m hm
    · exact raws_cok w cs n (fun c hc => h c (List.mem_cons_of_mem _ hc)) m hm
end
theorem pc_sz {w : Bool} {c : Cn} : Cn.sizes (pc w c) ≤ c.size := by
  unfold pc
  split
  · split
    · rw [Cn.size]; omega
    · rw [Cn.sizes, Cn.sizes]; omega
  · rw [Cn.sizes, Cn.sizes]; omega
theorem szs_sub : ∀ {a b : List Cn}, a.Sublist b → Cn.sizes a ≤ Cn.sizes b
  | _, _, .slnil => Nat.le_refl _
  | _, _, .cons _ h => by have := szs_sub h; rw [Cn.sizes]; omega
  | _, _, .cons_cons _ h => by have := szs_sub h; rw [Cn.sizes, Cn.sizes]; omega
theorem dd_sz : ∀ (xs a : List Cn), Cn.sizes (ddA a xs) ≤ Cn.sizes a + Cn.sizes xs
  | [], a => by rw [ddA]; omega
  | x :: xs, a => by
    rw [ddA, Cn.sizes]
    by_cases h : x ∈ a
    · rw [if_pos h]; have := dd_sz xs a; omega
    · rw [if_neg h]; have := dd_sz xs (a ++ [x]); rw [Cn.sizes_app, Cn.sizes, Cn.sizes] at this; omega
theorem jn_sz {w : Bool} {r : List Cn} : (jn w r).size ≤ 1 + Cn.sizes r := by
  unfold jn
  by_cases hf : Cn.at0 (!w) ∈ r
  · rw [if_pos hf, Cn.size]; omega
  · rw [if_neg hf]
    have h1 : Cn.sizes (fl w (ddA [] r)) ≤ Cn.sizes r := Nat.le_trans (szs_sub List.filter_sublist) (by have := dd_sz r []; rw [show Cn.sizes [] = 0 from by rw [Cn.sizes]] at this; omega)
    generalize fl w (ddA [] r) = m at *
    match m with
    | [] => show (Cn.at0 w).size ≤ _; rw [Cn.size]; omega
    | [x] => show x.size ≤ _; rw [Cn.sizes, Cn.sizes] at h1; omega
    | x :: y :: ys => show (Cn.nd w _).size ≤ _; rw [Cn.size]; omega
mutual
theorem nrm_sz : ∀ c : Cn, c.nrm.size ≤ c.size
  | .at0 w => by rw [Cn.nrm]; omega
  | .mat _ _ => by rw [Cn.nrm]; omega
  | .sam _ _ => by rw [Cn.nrm]; omega
  | .emp _ => by rw [Cn.nrm]; omega
  | .nt c => by
    have := nrm_sz c
    rw [Cn.nrm, Cn.size]
    generalize c.nrm = f at *
    unfold ntF
    split
    · rw [Cn.size]; omega
    · rw [Cn.size] at this; omega
    · rw [Cn.size]; omega
  | .nd w cs => by
    have := raws_sz w cs
    have := @jn_sz w (Cn.raws w cs)
    rw [Cn.nrm, Cn.size]; omega
theorem raws_sz (w : Bool) : ∀ cs : List Cn, Cn.sizes (Cn.raws w cs) ≤ Cn.sizes cs
  | [] => by rw [Cn.raws]; omega
  | c :: cs => by
    have := raws_sz w cs
    have := nrm_sz c
    have := @pc_sz w c.nrm
    rw [Cn.raws, Cn.sizes_app, Cn.sizes]; omega
end
end
/-! normal forms, as the program makes them -/
theorem at0_t : (Cn.at0 true).d = .tup [.str (PySem.Str.ofString "always")] := by rw [Cn.d]; rfl
theorem at0_f : (Cn.at0 false).d = .tup [.str (PySem.Str.ofString "never")] := by rw [Cn.d]; rfl
theorem wNd_t : wNd true = PySem.Str.ofString "and" := rfl
theorem wNd_f : wNd false = PySem.Str.ofString "or" := rfl
theorem wNd_inj {a b : Bool} (h : wNd a = wNd b) : a = b := by
  cases a <;> cases b <;> first | rfl | exact absurd h (by decide +kernel)
theorem wAt_inj {a b : Bool} (h : wAt a = wAt b) : a = b := by
  cases a <;> cases b <;> first | rfl | exact absurd h (by decide +kernel)
/-- which of the shapes a word tells -/
theorem Cn.w_nd {c : Cn} {w : Bool} (h : c.w = wNd w) : ∃ cs, c = .nd w cs := by
  cases c with
  | nd w' cs => exact ⟨cs, by rw [wNd_inj (show wNd w' = wNd w from h)]⟩
  | at0 b => exact absurd h (by show wAt b ≠ _; cases b <;> cases w <;> decide +kernel)
  | mat _ _ => exact absurd h (by show sMat ≠ _; cases w <;> decide +kernel)
  | sam _ _ => exact absurd h (by show sSam ≠ _; cases w <;> decide +kernel)
  | emp _ => exact absurd h (by show sEmp ≠ _; cases w <;> decide +kernel)
  | nt _ => exact absurd h (by show sNot ≠ _; cases w <;> decide +kernel)
theorem Cn.w_nt {c : Cn} (h : c.w = sNot) : ∃ d, c = .nt d := by
  cases c with
  | nt d => exact ⟨d, rfl⟩
  | at0 b => exact absurd h (by show wAt b ≠ _; cases b <;> decide +kernel)
  | mat _ _ => exact absurd h (by show sMat ≠ _; decide +kernel)
  | sam _ _ => exact absurd h (by show sSam ≠ _; decide +kernel)
  | emp _ => exact absurd h (by show sEmp ≠ _; decide +kernel)
  | nd w _ => exact absurd h (by show wNd w ≠ _; cases w <;> decide +kernel)
theorem Cn.w_at {c : Cn} {w : Bool} (h : c.w = wAt w) : c = .at0 w := by
  cases c with
  | at0 b => rw [wAt_inj (show wAt b = wAt w from h)]
  | nt d => exact absurd h (by show sNot ≠ _; cases w <;> decide +kernel)
  | mat _ _ => exact absurd h (by show sMat ≠ _; cases w <;> decide +kernel)
  | sam _ _ => exact absurd h (by show sSam ≠ _; cases w <;> decide +kernel)
  | emp _ => exact absurd h (by show sEmp ≠ _; cases w <;> decide +kernel)
  | nd b _ => exact absurd h (by show wNd b ≠ _; cases b <;> cases w <;> decide +kernel)
mutual
theorem Cn.d_inj : ∀ {a b : Cn}, a.d = b.d → a = b
  | a, b, h => by
    have h0 := h
    rw [a.d_e, b.d_e] at h0
    injection h0 with h0
    injection h0 with h1 h2
    injection h1 with h1
    cases a with
    | at0 w => exact (Cn.w_at (w := w) h1.symm).symm
    | mat n p =>
      obtain ⟨n', p', rfl⟩ := Cn.w_mat (c := b) h1.symm
      simp only [Cn.tl, List.cons.injEq, D.str.injEq] at h2
      rw [h2.1, h2.2.1]
    | sam x y =>
      cases b with
      | sam x' y' =>
        simp only [Cn.tl, List.cons.injEq, D.str.injEq] at h2
        rw [h2.1, h2.2.1]
      | at0 w => exact absurd h1 (by show sSam ≠ wAt w; cases w <;> decide +kernel)
      | mat _ _ => exact absurd h1 (by show sSam ≠ sMat; decide +kernel)
      | emp _ => exact absurd h1 (by show sSam ≠ sEmp; decide +kernel)
      | nt _ => exact absurd h1 (by show sSam ≠ sNot; decide +kernel)
      | nd w _ => exact absurd h1 (by show sSam ≠ wNd w; cases w <;> decide +kernel)
    | emp x =>
      cases b with
      | emp x' =>
        simp only [Cn.tl, List.cons.injEq, D.str.injEq] at h2
        rw [h2.1]
      | at0 w => exact absurd h1 (by show sEmp ≠ wAt w; cases w <;> decide +kernel)
      | mat _ _ => exact absurd h1 (by show sEmp ≠ sMat; decide +kernel)
      | sam _ _ => exact absurd h1 (by show sEmp ≠ sSam; decide +kernel)
      | nt _ => exact absurd h1 (by show sEmp ≠ sNot; decide +kernel)
      | nd w _ => exact absurd h1 (by show sEmp ≠ wNd w; cases w <;> decide +kernel)
    | nt c =>
      obtain ⟨d, rfl⟩ := Cn.w_nt (c := b) h1.symm
      simp only [Cn.tl, List.cons.injEq] at h2
      rw [Cn.d_inj h2.1]
    | nd w cs =>
      obtain ⟨ds, rfl⟩ := Cn.w_nd (c := b) (w := w) h1.symm
      simp only [Cn.tl] at h2
      rw [Cn.ds_inj h2]
theorem Cn.ds_inj : ∀ {as bs : List Cn}, Cn.ds as = Cn.ds bs → as = bs
  | [], [], _ => rfl
  | [], _ :: _, h => by rw [Cn.ds, Cn.ds] at h; cases h
  | _ :: _, [], h => by rw [Cn.ds, Cn.ds] at h; cases h
  | a :: as, b :: bs, h => by
    rw [Cn.ds, Cn.ds] at h
    injection h with h1 h2
    rw [Cn.d_inj h1, Cn.ds_inj h2]
end
/-- a condition that can be laid side by side with others -/
structure Fine (c : Cn) : Prop where
  sh : Shp 8 c.d
  pl : c.d.pl = true
theorem Fine.s {c : Cn} (h : Fine c) : shp c.d = true := h.sh.shp (by omega)
theorem cok_fine {N R : List Str} (hN : ∀ z ∈ N, LtrZ z) (hR : ∀ z ∈ R, LtrZ z) {n : Nat} {c : Cn} (h : COk N R n c) (hn : n ≤ 7) : Fine c := ⟨(cok_shp hN hR h).1.mono (by omega), (cok_shp hN hR h).2⟩
theorem fine_at (b : Bool) : Fine (.at0 b) := cok_fine (N := []) (R := []) (fun _ h => (List.not_mem_nil h).elim) (fun _ h => (List.not_mem_nil h).elim) (COk.at0 0 b) (by omega)
section
open Classical
theorem mem_d {x : Cn} {ys : List Cn} : x.d ∈ ys.map Cn.d ↔ x ∈ ys := by
  rw [List.mem_map]
  exact ⟨fun ⟨y, hy, e⟩ => Cn.d_inj e ▸ hy, fun h => ⟨x, h, rfl⟩⟩
theorem fine_l {ys : List Cn} (h : ∀ y ∈ ys, Fine y) : shp (.lst (ys.map Cn.d)) = true := (shp_lst (k := 8) fun _ hx => let ⟨y, hy, e⟩ := List.mem_map.mp hx; e ▸ (h y hy).sh).shp (by omega)
theorem fine_t {ys : List Cn} (h : ∀ y ∈ ys, Fine y) : shp (.tup (ys.map Cn.d)) = true := (shp_tup (k := 8) fun _ hx => let ⟨y, hy, e⟩ := List.mem_map.mp hx; e ▸ (h y hy).sh).shp (by omega)
theorem inL_cn {x : Cn} {ys : List Cn} (hx : Fine x) (h : ∀ y ∈ ys, Fine y) : inL x.d (ys.map Cn.d) = decide (x ∈ ys) := by
  have := inL_pl hx.pl (ds := ys.map Cn.d) fun _ hd => let ⟨y, hy, e⟩ := List.mem_map.mp hd; e ▸ (h y hy).pl
  rw [mem_d] at this
  by_cases hm : x ∈ ys
  · rw [decide_eq_true hm]; exact this.mpr hm
  · rw [decide_eq_false hm]; exact Bool.eq_false_iff.mpr fun z => hm (this.mp z)
theorem in_cn {x : Cn} {ys : List Cn} (hx : Fine x) (h : ∀ y ∈ ys, Fine y) : gIn [x.d, .lst (ys.map Cn.d)] = some (bO (decide (x ∈ ys))) := by rw [gIn_l hx.s (fine_l h), inL_cn hx h]
theorem notin_cn {x : Cn} {ys : List Cn} (hx : Fine x) (h : ∀ y ∈ ys, Fine y) : gNotIn [x.d, .lst (ys.map Cn.d)] = some (bO (!decide (x ∈ ys))) := by rw [gNotIn_l hx.s (fine_l h), inL_cn hx h]
theorem in_cnT {x : Cn} {ys : List Cn} (hx : Fine x) (h : ∀ y ∈ ys, Fine y) : gIn [x.d, .tup (ys.map Cn.d)] = some (bO (decide (x ∈ ys))) := by rw [gIn_t hx.s (fine_t h), inL_cn hx h]
theorem eq_cn {x y : Cn} (hx : Fine x) (hy : Fine y) : gEq [x.d, y.d] = some (bO (decide (x = y))) := by
  rw [gEq_pl hx.pl hy.pl hx.s hy.s]
  congr 2
  exact decide_eq_decide.mpr ⟨Cn.d_inj, fun h => by rw [h]⟩
theorem ne_cn {x y : Cn} (hx : Fine x) (hy : Fine y) : gNe [x.d, y.d] = some (bO (!decide (x = y))) := by
  rw [gNe_pl hx.pl hy.pl hx.s hy.s]
  congr 3
  exact decide_eq_decide.mpr ⟨Cn.d_inj, fun h => by rw [h]⟩
end
theorem gIx0_cn (c : Cn) : gIx [c.d, .int 0] = some (sO c.w) := by rw [c.d_e, gIx_t, atI_c0]; rfl
theorem sl1_cn (c : Cn) : gSl true false [c.d, .int 1] = some (.fr (.tup c.tl)) := by
  rw [c.d_e]
  have := @cut1_c (.str c.w) c.tl
  simp [gSl10, slD_t, this]
section
open Classical
variable {S1 S2 S3 : Fn}
theorem mem_loop0 {a0 a1 a3 a4 a5 : Option O} (xs : List Cn) (hx : ∀ x ∈ xs, Fine x) : ∀ (acc : List Cn) (q : Option O), (∀ x ∈ acc, Fine x) → acc.length + xs.length ≤ 1000 →
    Ev (forL (.n 6) (B_members_of_0 S1 S2 S3) (xs.map Cn.d) [a0, a1, some (.lst (acc.map Cn.d)), a3, a4, a5, q]) (fun fl e => fl = .next ∧ ∃ q, e = [a0, a1, some (.lst ((ddA acc xs).map Cn.d)), a3, a4, a5, q]) (fun _ _ => False) := by
  intro acc q ha hl
  refine Ev_forP (f := Cn.d) (fun done e => @Dn.hb _ ⟨fun e => ∃ q, e = [a0, a1, some (.lst ((ddA acc done).map Cn.d)), a3, a4, a5, q]⟩ e) _ xs [] _ ⟨q, by rw [ddA]⟩ ?_ ?_
  · rintro pre x post e he ⟨q, rfl⟩
    refine ⟨_, rfl, ?_⟩
    have hxm : x ∈ xs := by simpa using mem_mid he
    have he2 : xs = pre ++ x :: post := by simpa using he
    have hfin : ∀ y ∈ ddA acc pre, Fine y := fun y hy => by
      rcases (ddA_mem _ _).mp hy with hy | hy
      · exact ha y hy
      · exact hx y (by rw [he2]; exact List.mem_append_left _ hy)
    have hn := notin_cn (hx x hxm) hfin
    have hl2 : (ddA acc pre).length < sizeLine := szl1_of' (by
      have h1 := ddA_len acc pre
      have h2 := congrArg List.length he2
      rw [List.length_append, List.length_cons] at h2
      omega)
    have nx : ddA acc (pre ++ [x]) = if x ∈ ddA acc pre then ddA acc pre else ddA acc pre ++ [x] := by
      rw [ddA_app, ddA, ddA, ddA]
    unfold B_members_of_0
    clear he he2 hfin hxm
    by_cases hm : x ∈ ddA acc pre
    · rw [if_pos hm] at nx
      rw [decide_eq_true hm] at hn
      clear hm
      walk_at "evd"
      exact hbi ⟨_, by rw [nx]⟩
    · rw [if_neg hm] at nx
      rw [decide_eq_false hm] at hn
      clear hm
      walk_at "evd"
      exact hbi ⟨_, by rw [nx, List.map_append]; rfl⟩
  · rintro e ⟨q, rfl⟩
    exact ⟨rfl, q, rfl⟩
end
theorem members_ok (w : Bool) (cs : List Cn) (n : Nat) (hf : ∀ x ∈ Cn.raws w cs, Fine x) (hs : Cn.sizes cs ≤ 1000) (hc : ∀ c ∈ cs, F_normal n [.fr c.d] = some (.ok (.fr c.nrm.d) [.fr c.d])) :
    F_members_of (n + 1) [.fr (.str (wNd w)), .fr (.tup (cs.map Cn.d))] = some (.ok (.lst ((ddA [] (Cn.raws w cs)).map Cn.d)) [.fr (.str (wNd w)), .fr (.tup (cs.map Cn.d))]) := by
  have H : FEv (F_members_of (n + 1) [.fr (.str (wNd w)), .fr (.tup (cs.map Cn.d))]) (@hq _ _ ⟨fun o os => o = .lst ((ddA [] (Cn.raws w cs)).map Cn.d) ∧ os = [.fr (.str (wNd w)), .fr (.tup (cs.map Cn.d))]⟩) (fun _ _ => False) := by
    unfold F_members_of G_members_of
    walk_at "evd"
    refine Ev_forP (f := Cn.d) (fun done e => @Dn.hb _ ⟨fun e => ∃ q3 q4 q5 q6, e = [some (sO (wNd w)), some (.fr (.tup (cs.map Cn.d))), some (.lst ((ddA [] (Cn.raws w done)).map Cn.d)), q3, q4, q5, q6]⟩ e) _ cs [] _ ⟨_, _, _, _, by rw [Cn.raws, ddA]; rfl⟩ ?_ ?_
    · rintro pre x post e he ⟨q3, q4, q5, q6, rfl⟩
      refine ⟨_, rfl, ?_⟩
      have hxm : x ∈ cs := by simpa using mem_mid he
      have he2 : cs = pre ++ x :: post := by simpa using he
      have hcx := hc x hxm
      have hr : Cn.raws w cs = Cn.raws w pre ++ (pc w x.nrm ++ Cn.raws w post) := by rw [he2, raws_app, Cn.raws]
      have hfp : ∀ y ∈ pc w x.nrm, Fine y := fun y hy => hf y (by rw [hr]; exact List.mem_append_right _ (List.mem_append_left _ hy))
      have hfa : ∀ y ∈ ddA [] (Cn.raws w pre), Fine y := fun y hy => hf y (by
        rw [hr]
        exact List.mem_append_left _ (((ddA_mem _ _).mp hy).elim (fun z => (List.not_mem_nil z).elim) id))
      have hl : (ddA [] (Cn.raws w pre)).length + (pc w x.nrm).length ≤ 1000 := by
        have h1 := ddA_len [] (Cn.raws w pre)
        have h2 := congrArg Cn.sizes hr
        rw [Cn.sizes_app, Cn.sizes_app] at h2
        have h3 := raws_sz w cs
        have h4 := szs_len (Cn.raws w pre)
        have h5 := szs_len (pc w x.nrm)
        have h6 : ([] : List Cn).length = 0 := rfl
        omega
      have lp := fun a0 a1 a3 a4 a5 q => (mem_loop0 (S1 := F_normal n) (S2 := F_joined n) (S3 := F_members_of n) (a0 := a0) (a1 := a1) (a3 := a3) (a4 := a4) (a5 := a5) (pc w x.nrm) hfp (ddA [] (Cn.raws w pre)) q hfa hl)
      have nx : ddA (ddA [] (Cn.raws w pre)) (pc w x.nrm) = ddA [] (Cn.raws w (pre ++ [x])) := by
        rw [← ddA_app, raws_app, Cn.raws, Cn.raws, List.append_nil]
      rw [nx] at lp
      have hx0 := gIx0_cn x.nrm
      have hx1 := sl1_cn x.nrm
      unfold B_members_of_1
      by_cases hw : x.nrm.w = wNd w
      · obtain ⟨ms, hms⟩ := Cn.w_nd hw
        have hpc : pc w x.nrm = ms := by rw [hms]; unfold pc; simp
        rw [hms] at hx1
        have htl : (Cn.nd w ms).tl = ms.map Cn.d := Cn.ds_map ms
        rw [htl] at hx1
        rw [hpc] at lp
        rw [← hms] at hx1
        obtain ⟨fl, e3, g1, rfl, q, rfl⟩ := (lp (some (sO (wNd w))) (some (.fr (.tup (cs.map Cn.d)))) (some (.fr x.d)) (some (.fr x.nrm.d)) (some (.fr (.tup (ms.map Cn.d)))) q6).get
        clear lp he he2 hc hr hfp hfa hl nx hf hs hms hpc htl hxm
        walk_at "evd"
        exact hbi ⟨_, _, _, _, rfl⟩
      · have hpc : pc w x.nrm = [x.nrm] := pc_one fun ms z => hw (by rw [z]; rfl)
        rw [hpc] at lp
        obtain ⟨fl, e3, g1, rfl, q, rfl⟩ := (lp (some (sO (wNd w))) (some (.fr (.tup (cs.map Cn.d)))) (some (.fr x.d)) (some (.fr x.nrm.d)) (some (.fr (.tup [x.nrm.d]))) q6).get
        rw [List.map_singleton] at g1
        clear lp he he2 hc hr hfp hfa hl nx hf hs hpc hxm
        walk_at "evd"
        exact hbi ⟨_, _, _, _, rfl⟩
    · rintro e ⟨q3, q4, q5, q6, rfl⟩
      clear hc
      walk_at "evd"
      exact hqi ⟨rfl, rfl⟩
  obtain ⟨o, os, h, rfl, rfl⟩ := H.get
  exact h
theorem cn_nd_d (w : Bool) (ms : List Cn) : (Cn.nd w ms).d = .tup (.str (wNd w) :: ms.map Cn.d) := by rw [Cn.d, Cn.ds_map]
section
open Classical
theorem fl_lc {own : List Nat} {tg : Tg} {t : M Bool} {C : M O} {e : Sl} (w : Bool) (xs : List Cn) (hl : xs.length < 10000000) (hs : ∀ x ∈ xs, ∃ e1, tg.go x.d e = some e1 ∧ Ev (t e1) (fun b e2 => b = !decide (x = .at0 w) ∧ if (!decide (x = Cn.at0 w)) = true then Ev (C e2) (fun o e3 => o.d = x.d ∧ wipeE e3 own = e) (fun _ _ => False) else wipeE e2 own = e) (fun _ _ => False)) :
    lcL own tg t C (xs.map Cn.d) [] e = some ((fl w xs).map Cn.d, e) := by
  have := lc_filt (own := own) (tg := tg) (t := t) (C := C) (e := e) Cn.d Cn.d (fun x => !decide (x = .at0 w)) xs hl hs
  rw [this]
  congr 3
  unfold fl
  refine List.filter_congr fun x _ => ?_
  by_cases h : x = Cn.at0 w
  · rw [decide_eq_true h, decide_eq_false fun z => z h]; rfl
  · rw [decide_eq_false h, decide_eq_true h]; rfl
theorem joined_ok (w : Bool) (cs : List Cn) (n : Nat) (hf : ∀ x ∈ Cn.raws w cs, Fine x) (hs : Cn.sizes cs ≤ 1000) (hc : ∀ c ∈ cs, F_normal n [.fr c.d] = some (.ok (.fr c.nrm.d) [.fr c.d])) :
    F_joined (n + 2) [.fr (.str (wNd w)), .fr (.tup (cs.map Cn.d)), .fr (Cn.at0 w).d, .fr (Cn.at0 (!w)).d] = some (.ok (.fr (jn w (Cn.raws w cs)).d) [.fr (.str (wNd w)), .fr (.tup (cs.map Cn.d)), .fr (Cn.at0 w).d, .fr (Cn.at0 (!w)).d]) := by
  have H : FEv (F_joined (n + 2) [.fr (.str (wNd w)), .fr (.tup (cs.map Cn.d)), .fr (Cn.at0 w).d, .fr (Cn.at0 (!w)).d]) (@hq _ _ ⟨fun o os => o = .fr (jn w (Cn.raws w cs)).d ∧ os = [.fr (.str (wNd w)), .fr (.tup (cs.map Cn.d)), .fr (Cn.at0 w).d, .fr (Cn.at0 (!w)).d]⟩) (fun _ _ => False) := by
    have hm := members_ok w cs n hf hs hc
    have hfm : ∀ x ∈ ddA [] (Cn.raws w cs), Fine x := fun x hx => hf x (((ddA_mem _ _).mp hx).elim (fun z => (List.not_mem_nil z).elim) id)
    have hin := in_cn (fine_at (!w)) hfm
    have hml : Cn.at0 (!w) ∈ ddA [] (Cn.raws w cs) ↔ Cn.at0 (!w) ∈ Cn.raws w cs := by rw [ddA_mem]; simp
    have hll : (ddA [] (Cn.raws w cs)).length ≤ 1000 := by
      have h1 := ddA_len [] (Cn.raws w cs)
      have h2 := szs_len (Cn.raws w cs)
      have h3 := raws_sz w cs
      have h6 : ([] : List Cn).length = 0 := rfl
      omega
    have hfl : ∀ x ∈ fl w (ddA [] (Cn.raws w cs)), Fine x := fun x hx => hfm x (fl_mem.mp hx).1
    have hjn : ¬ Cn.at0 (!w) ∈ ddA [] (Cn.raws w cs) → jn w (Cn.raws w cs) = jnL w (fl w (ddA [] (Cn.raws w cs))) := fun h => by unfold jn; rw [if_neg (fun z => h (hml.mpr z))]
    have hjy : Cn.at0 (!w) ∈ ddA [] (Cn.raws w cs) → jn w (Cn.raws w cs) = .at0 (!w) := fun h => by unfold jn; rw [if_pos (hml.mp h)]
    have hlc : ∀ e, (∃ a0 a1 a3 a4, e = [a0, a1, some (.fr (Cn.at0 w).d), a3, a4, none]) → lcL [5] (.n 5) (T_joined_0 (F_normal (n + 1)) (F_joined (n + 1)) (F_members_of (n + 1))) (C_joined_0 (F_normal (n + 1)) (F_joined (n + 1)) (F_members_of (n + 1))) ((ddA [] (Cn.raws w cs)).map Cn.d) [] e = some ((fl w (ddA [] (Cn.raws w cs))).map Cn.d, e) := by
      rintro e ⟨a0, a1, a3, a4, rfl⟩
      refine fl_lc w _ (by omega) fun x hx => ⟨_, rfl, ?_⟩
      have hne := ne_cn (hfm x hx) (fine_at w)
      unfold T_joined_0 C_joined_0
      clear hin hml hll hfl hjn hjy hm hfm hf hc hx
      by_cases h : x = .at0 w
      · subst h
        rw [decide_eq_true rfl] at hne
        walk_at "evd"
      · rw [decide_eq_false h] at hne
        walk_at "evd"
    have hfl1 : (fl w (ddA [] (Cn.raws w cs))).length ≤ 1000 := Nat.le_trans (List.length_filter_le _ _) hll
    generalize ddA [] (Cn.raws w cs) = m at *
    unfold F_joined G_joined
    have hl1 := hlc _ ⟨some (sO (wNd w)), some (.fr (.tup (cs.map Cn.d))), some (.fr (Cn.at0 (!w)).d), some (.fr (.lst (m.map Cn.d))), rfl⟩
    by_cases hfi : Cn.at0 (!w) ∈ m
    · have e1 := hjy hfi
      rw [decide_eq_true hfi] at hin
      clear hlc hl1 hjn hjy hfl hfl1 hll hml hf hc hfm hs hfi
      walk_at "evd"
      exact hqi ⟨by rw [e1], rfl⟩
    · have e1 := hjn hfi
      rw [decide_eq_false hfi] at hin
      clear hlc hjn hjy hll hml hf hc hfm hs hfi
      generalize fl w m = k at *
      match k with
      | [] =>
        have e2 : jnL w [] = .at0 w := rfl
        rw [e2] at e1
        rw [List.map_nil] at hl1
        clear hfl1 hfl e2
        walk_at "evd"
        exact hqi ⟨by rw [e1], rfl⟩
      | [x] =>
        have e2 : jnL w [x] = x := rfl
        rw [e2] at e1
        rw [List.map_singleton] at hl1
        clear hfl1 hfl e2
        walk_at "evd"
        exact hqi ⟨by rw [e1], rfl⟩
      | x :: y :: r =>
        have e2 : jnL w (x :: y :: r) = .nd w (x :: y :: r) := rfl
        rw [e2] at e1
        have hz : 1 + (x.d :: y.d :: r.map Cn.d).length ≤ sizeLine := by
          rw [List.length_cons, List.length_cons, List.length_map, sizeLine_eq]
          rw [List.length_cons, List.length_cons] at hfl1
          omega
        have l1 : ¬ ((r.length : Int) + 1 + 1 = 0) := by omega
        have l2 : ¬ ((r.length : Int) + 1 + 1 = 1) := by omega
        rw [List.map_cons, List.map_cons] at hl1
        have hz' : 1 + (r.length + 1 + 1) ≤ sizeLine := by rw [List.length_cons, List.length_cons, List.length_map] at hz; exact hz
        clear hfl1 hfl e2 hz
        have e3 : (Cn.nd w (x :: y :: r)).d = .tup (.str (wNd w) :: x.d :: y.d :: r.map Cn.d) := by rw [cn_nd_d]; rfl
        walk_at "evd"
        exact hqi ⟨by rw [e1, e3], rfl⟩
  obtain ⟨o, os, h, rfl, rfl⟩ := H.get
  exact h
end
theorem words_ne : PySem.Str.ofString "not" ≠ PySem.Str.ofString "and" ∧ PySem.Str.ofString "not" ≠ PySem.Str.ofString "or" ∧ PySem.Str.ofString "or" ≠ PySem.Str.ofString "and" := by decide +kernel
/-- the part of a not, as it was -/
theorem ntF_cases (f : Cn) : (∃ b, f = .at0 b ∧ ntF f = .at0 (!b)) ∨ (∃ d, f = .nt d ∧ ntF f = d) ∨ ((∀ b, f ≠ .at0 b) ∧ (∀ d, f ≠ .nt d) ∧ ntF f = .nt f) := by
  cases f with
  | at0 b => exact .inl ⟨b, rfl, rfl⟩
  | nt d => exact .inr (.inl ⟨d, rfl, rfl⟩)
  | mat _ _ => exact .inr (.inr ⟨fun _ z => (by cases z), fun _ z => (by cases z), rfl⟩)
  | sam _ _ => exact .inr (.inr ⟨fun _ z => (by cases z), fun _ z => (by cases z), rfl⟩)
  | emp _ => exact .inr (.inr ⟨fun _ z => (by cases z), fun _ z => (by cases z), rfl⟩)
  | nd _ _ => exact .inr (.inr ⟨fun _ z => (by cases z), fun _ z => (by cases z), rfl⟩)
/-- a condition that is its own normal form by its word -/
theorem Cn.nrm_leaf {c : Cn} (h : ¬ c.w ∈ [sAnd, sOr, sNot]) : c.nrm = c := by
  cases c with
  | nt _ => exact absurd (by show sNot ∈ _; decide +kernel) h
  | nd w _ => exact absurd (by show wNd w ∈ _; cases w <;> decide +kernel) h
  | at0 _ => rw [Cn.nrm]
  | mat _ _ => rw [Cn.nrm]
  | sam _ _ => rw [Cn.nrm]
  | emp _ => rw [Cn.nrm]
open Classical in
theorem normal_ok {N R : List Str} (hN : ∀ z ∈ N, LtrZ z) (hR : ∀ z ∈ R, LtrZ z) : ∀ (d : Nat) (c : Cn) (n : Nat), COk N R d c → d ≤ 6 → c.size ≤ 1000 → 3 * d ≤ n → F_normal n [.fr c.d] = some (.ok (.fr c.nrm.d) [.fr c.d])
  | 0, c, n, h, _, _, _ => by have := cok_pos h; omega
  | d + 1, c, n, h, hd, hsz, hn => by
    obtain ⟨n, rfl⟩ : ∃ m, n = m + 3 := ⟨n - 3, by omega⟩
    have ih := normal_ok hN hR d
    have H : FEv (F_normal (n + 3) [.fr c.d]) (@hq _ _ ⟨fun o os => o = .fr c.nrm.d ∧ os = [.fr c.d]⟩) (fun _ _ => False) := by
      have hix := gIx0_cn c
      obtain ⟨w1, w2, w3⟩ := words_ne
      unfold F_normal G_normal
      by_cases hlf : c.w ∈ [sAnd, sOr, sNot]
      · cases c with
        | at0 b => exact absurd hlf (by show ¬ wAt b ∈ _; cases b <;> decide +kernel)
        | mat _ _ => exact absurd hlf (by show ¬ sMat ∈ _; decide +kernel)
        | sam _ _ => exact absurd hlf (by show ¬ sSam ∈ _; decide +kernel)
        | emp _ => exact absurd hlf (by show ¬ sEmp ∈ _; decide +kernel)
        | nd w cs =>
          cases h with
          | nd _ _ _ hcs =>
            have hcw : (Cn.nd w cs).w = wNd w := rfl
            have hsl := sl1_cn (.nd w cs)
            have htl : (Cn.nd w cs).tl = cs.map Cn.d := Cn.ds_map cs
            rw [htl] at hsl
            rw [hcw] at hix
            rw [Cn.size] at hsz
            have hfr : ∀ x ∈ Cn.raws w cs, Fine x := fun x hx => cok_fine hN hR (raws_cok w cs d hcs x hx) (by omega)
            have hj := joined_ok w cs n hfr (by omega) fun c hc => ih c n (hcs c hc) (by omega) (by
              have : c.size ≤ Cn.sizes cs := by
                have := szs_sub (List.singleton_sublist.mpr hc)
                rw [Cn.sizes, Cn.sizes] at this
                omega
              omega) (by omega)
            have hnr : (Cn.nd w cs).nrm = jn w (Cn.raws w cs) := by rw [Cn.nrm]
            rw [← hnr] at hj
            have e1 := at0_t
            have e2 := at0_f
            clear ih hcs hfr hsz hnr htl hcw hlf
            cases w with
            | true =>
              rw [show (!true) = false from rfl, e1, e2, wNd_t] at hj
              rw [wNd_t] at hix
              clear e1 e2 w1 w2 w3
              walk_at "evd"
              exact hqi ⟨rfl, rfl⟩
            | false =>
              rw [show (!false) = true from rfl, e1, e2, wNd_f] at hj
              rw [wNd_f] at hix
              clear e1 e2 w1 w2
              walk_at "evd"
              exact hqi ⟨rfl, rfl⟩
        | nt x =>
          cases h with
          | nt _ _ hx =>
            have hcw : (Cn.nt x).w = PySem.Str.ofString "not" := rfl
            rw [hcw] at hix
            rw [Cn.size] at hsz
            have hin := ih x (n + 2) hx (by omega) (by omega) (by omega)
            have hx1 : gIx [(Cn.nt x).d, .int 1] = some (.fr x.d) := by rw [Cn.d, gIx_t, atI_c1]; rfl
            have hnr : (Cn.nt x).nrm = ntF x.nrm := by rw [Cn.nrm]
            have hf : Fine x.nrm := cok_fine hN hR (nrm_cok x d hx) (by omega)
            have et := eq_cn hf (fine_at true)
            have ef := eq_cn hf (fine_at false)
            have f0 := gIx0_cn x.nrm
            rw [at0_t] at et
            rw [at0_f] at ef
            clear ih hx hsz hlf hcw hf
            rcases ntF_cases x.nrm with ⟨b, h1, h2⟩ | ⟨y, h1, h2⟩ | ⟨h1, h2, h3⟩
            · rw [h2] at hnr
              rw [h1] at et ef hin
              have e1 := at0_t
              have e2 := at0_f
              clear h2
              cases b with
              | true =>
                rw [decide_eq_true rfl] at et
                rw [show (!true) = false from rfl] at hnr
                clear ef e1 h1 f0
                walk_at "evd"
                exact hqi ⟨by rw [hnr, e2], rfl⟩
              | false =>
                rw [decide_eq_false (fun z => by cases z)] at et
                rw [decide_eq_true rfl] at ef
                rw [show (!false) = true from rfl] at hnr
                clear e2 h1 f0
                walk_at "evd"
                exact hqi ⟨by rw [hnr, e1], rfl⟩
            · rw [h2] at hnr
              rw [h1] at et ef f0 hin
              rw [decide_eq_false (fun z => by cases z)] at et ef
              have fy : gIx [(Cn.nt y).d, .int 1] = some (.fr y.d) := by rw [Cn.d, gIx_t, atI_c1]; rfl
              have fw : (Cn.nt y).w = PySem.Str.ofString "not" := rfl
              rw [fw] at f0
              clear h1 h2
              walk_at "evd"
              exact hqi ⟨by rw [hnr], rfl⟩
            · rw [h3] at hnr
              rw [decide_eq_false (h1 _)] at et ef
              have fw : ¬ x.nrm.w = PySem.Str.ofString "not" := fun z => by
                obtain ⟨d, z⟩ := Cn.w_nt z
                exact h2 d z
              have e3 : (Cn.nt x.nrm).d = .tup [.str (PySem.Str.ofString "not"), x.nrm.d] := by rw [Cn.d]
              clear h1 h2 h3
              walk_at "evd"
              exact hqi ⟨by rw [hnr, e3], rfl⟩
      · have hnr := Cn.nrm_leaf hlf
        have n1 : ¬ c.w = PySem.Str.ofString "and" := fun z => hlf (by rw [z]; decide +kernel)
        have n2 : ¬ c.w = PySem.Str.ofString "or" := fun z => hlf (by rw [z]; decide +kernel)
        have n3 : ¬ c.w = PySem.Str.ofString "not" := fun z => hlf (by rw [z]; decide +kernel)
        clear hlf ih h w1 w2 w3 hsz
        walk_at "evd"
        exact hqi ⟨by rw [hnr], rfl⟩
    obtain ⟨o, os, h, rfl, rfl⟩ := H.get
    exact h
/-! whether a pattern matches, plainly -/
def MM : List Nat → List Nat → Bool
  | [], [] => true
  | [], _ :: _ => false
  | c :: p, [] => decide (c = 42) && MM p []
  | c :: p, x :: t => if c = 42 then MM p (x :: t) || MM (c :: p) t else (decide (c = 63) || decide (c = x)) && MM p t
termination_by p t => p.length + t.length
def acc (p t : List Nat) (k : Nat) : Bool := MM (p.take k).reverse t.reverse
theorem acc_00 (p : List Nat) : acc p [] 0 = true := by unfold acc; rw [List.take_zero]; simp [MM]
theorem acc_0s (p t : List Nat) (x : Nat) : acc p (t ++ [x]) 0 = false := by unfold acc; rw [List.take_zero, List.reverse_append]; simp [MM]
theorem take_rev {p : List Nat} {k c : Nat} (h : p[k]? = some c) : (p.take (k + 1)).reverse = c :: (p.take k).reverse := by
  rw [List.take_succ, h]; simp
theorem acc_s0 {p : List Nat} {k c : Nat} (h : p[k]? = some c) : acc p [] (k + 1) = (decide (c = 42) && acc p [] k) := by
  unfold acc; rw [take_rev h]; simp [MM]
theorem acc_ss {p : List Nat} {k c : Nat} (t : List Nat) (x : Nat) (h : p[k]? = some c) : acc p (t ++ [x]) (k + 1) = if c = 42 then acc p (t ++ [x]) k || acc p t (k + 1) else (decide (c = 63) || decide (c = x)) && acc p t k := by
  unfold acc; rw [take_rev h, List.reverse_append]
  show MM (c :: (p.take k).reverse) (x :: t.reverse) = _
  rw [MM]; rfl
theorem star_is : PySem.Str.ofString "*" = one 42 := by decide +kernel
theorem quest_is : PySem.Str.ofString "?" = one 63 := by decide +kernel
theorem one_eq {c d : Nat} : (one c = one d) ↔ c = d := by simp
theorem ix_sign {p : Str} {k c : Nat} (hp : p.length ≤ 1000) (h : (zl p)[k]? = some c) : gIx [.str p, .int (k : Int)] = some (sO (one c)) := by
  have hl : k < (zl p).length := (List.getElem?_eq_some_iff.mp h).1
  rw [gIx_z (sz_of (by omega)), atI_nat' (by omega) (by show (k : Int) < (zl p).length; omega), Int.toNat_natCast]
  show Option.map _ ((zl p)[k]?) = _
  rw [h]; rfl
theorem in_nl {o : O} {S : List Nat} (ho : o.d = .lst (nl S) ∨ o.d = .tup (nl S)) (k : Nat) : gIn [.int (k : Int), o.d] = some (bO (decide (k ∈ S))) := by
  rcases ho with h | h <;> rw [h]
  · rw [gIn_l (shp_i _) (shp_nl_l S), inL_nat]
  · rw [gIn_t (shp_i _) (shp_nl_t S), inL_nat]
def OkZ (cs : List Nat) : Prop := ∀ c ∈ cs, c < 1114112
def PatOk (p : Str) : Prop := p.length ≤ 1000 ∧ OkZ (zl p)
/-! the law's own matching, place by place -/
theorem acc_stars (p z : List Nat) (k : Nat) (hc : p[k]? = some 42) : ∀ j, j ≤ z.length → (acc p (z.take j) (k + 1) = true ↔ ∃ i, i ≤ j ∧ acc p (z.take i) k = true)
  | 0, _ => by
    rw [List.take_zero, acc_s0 hc]
    constructor
    · intro h
      exact ⟨0, Nat.le_refl _, by rw [List.take_zero]; simpa using h⟩
    · rintro ⟨i, hi, h⟩
      have : i = 0 := by omega
      subst this
      rw [List.take_zero] at h
      simp [h]
  | j + 1, hj => by
    have hx : z[j]? = some z[j] := List.getElem?_eq_getElem (by omega)
    have ih := acc_stars p z k hc j (by omega)
    have e : z.take (j + 1) = z.take j ++ [z[j]] := by rw [List.take_succ, hx]; rfl
    rw [e, acc_ss _ _ hc, if_pos rfl, Bool.or_eq_true, ih, ← e]
    constructor
    · rintro (h | ⟨i, hi, h⟩)
      · exact ⟨j + 1, Nat.le_refl _, h⟩
      · exact ⟨i, by omega, h⟩
    · rintro ⟨i, hi, h⟩
      by_cases z1 : i = j + 1
      · subst z1; exact .inl h
      · exact .inr ⟨i, by omega, h⟩
theorem acc_sign (p z : List Nat) (k c : Nat) (hc : p[k]? = some c) (h42 : c ≠ 42) (j : Nat) (hj : j ≤ z.length) : acc p (z.take j) (k + 1) = true ↔ ∃ i, j = i + 1 ∧ i < z.length ∧ (c = 63 ∨ z[i]? = some c) ∧ acc p (z.take i) k = true := by
  cases j with
  | zero =>
    rw [List.take_zero, acc_s0 hc, decide_eq_false h42]
    constructor
    · intro h; cases h
    · rintro ⟨i, hi, _⟩; omega
  | succ j =>
    have hx : z[j]? = some z[j] := List.getElem?_eq_getElem (by omega)
    have e : z.take (j + 1) = z.take j ++ [z[j]] := by rw [List.take_succ, hx]; rfl
    rw [e, acc_ss _ _ hc, if_neg h42, Bool.and_eq_true, Bool.or_eq_true, decide_eq_true_iff, decide_eq_true_iff]
    constructor
    · rintro ⟨h1, h2⟩
      exact ⟨j, rfl, by omega, h1.imp id (fun e => by rw [hx, e]), h2⟩
    · rintro ⟨i, hi, h1, h2, h3⟩
      have : i = j := by omega
      subst this
      refine ⟨h2.imp id (fun e => ?_), h3⟩
      rw [hx] at e
      exact (Option.some.inj e).symm
/-- what is reached by one sign -/
def stp (z : List Nat) (c i j : Nat) : Prop := if c = 42 then i ≤ j ∧ j ≤ z.length else j = i + 1 ∧ i < z.length ∧ (c = 63 ∨ z[i]? = some c)
theorem nd_len {R : List Nat} {n : Nat} (h : R.Nodup) (hb : ∀ j ∈ R, j ≤ n) : R.length ≤ n + 1 := by
  have := List.Nodup.length_le_of_subset (l₁ := R) (l₂ := List.range (n + 1)) h fun j hj => List.mem_range.mpr (by have := hb j hj; omega)
  rw [List.length_range] at this
  exact this
theorem in_nlN (S : List Nat) (k : Nat) : gNotIn [.int (k : Int), .lst (nl S)] = some (bO (!decide (k ∈ S))) := by
  have h := in_nl (o := .lst (nl S)) (.inl rfl) k
  have s1 : Dn.shp (.int (k : Int)) = true := shp_i _
  have s2 : Dn.shp (.lst (nl S)) = true := shp_nl_l S
  have h : gIn [.int (k : Int), .lst (nl S)] = some (bO (decide (k ∈ S))) := h
  rw [gIn_l s1 s2] at h
  rw [gNotIn_l s1 s2]
  have h : inL (.int (k : Int)) (nl S) = decide (k ∈ S) := by injection h with h; injection h with h; injection h
  rw [h]
/-- one place that was reached, one sign -/
theorem lm_one (p z : Str) (hz : z.length ≤ 1000) (O2 : O) (c i : Nat) (hcb : c < 1114112) (hi : i ≤ z.length) (F : List Nat) (nd : F.Nodup) (hb : ∀ j ∈ F, j ≤ z.length) :
    ∃ F' : List Nat, F'.Nodup ∧ (∀ j, j ∈ F' ↔ j ∈ F ∨ stp (zl z) c i j) ∧
      B__law_matches_0 [some (.fr (.str p)), some (.fr (.str z)), some O2, some (.fr (.str (one c))), some (.lst (nl F)), some (.fr (.int (i : Int))), none] = some (.ok .next [some (.fr (.str p)), some (.fr (.str z)), some O2, some (.fr (.str (one c))), some (.lst (nl F')), some (.fr (.int (i : Int))), none]) := by
  have hs := star_is
  have hq := quest_is
  have lz : (zl z).length = z.length := rfl
  have fl := nd_len nd hb
  have sz : (nl F).length < sizeLine := by rw [nl_len, sizeLine_eq]; omega
  have zs : z.length ≤ sizeLine := by rw [sizeLine_eq]; omega
  by_cases h42 : c = 42
  · subst h42
    obtain ⟨G, hG⟩ : ∃ G : List Nat, G = ((List.range (z.length + 1 - i)).map (i + ·)).filter fun k => !decide (k ∈ F) := ⟨_, rfl⟩
    have gm : ∀ j, j ∈ G ↔ (i ≤ j ∧ j ≤ z.length) ∧ j ∉ F := fun j => by
      rw [hG, List.mem_filter, List.mem_map]
      constructor
      · rintro ⟨⟨a, ha, rfl⟩, h⟩
        have := List.mem_range.mp ha
        exact ⟨⟨by omega, by omega⟩, by simpa using h⟩
      · rintro ⟨⟨h1, h2⟩, h3⟩
        exact ⟨⟨j - i, List.mem_range.mpr (by omega), by omega⟩, by simpa using h3⟩
    have gn : G.Nodup := by
      rw [hG]
      exact (List.Pairwise.map (S := (· ≠ ·)) (i + ·) (fun a b (h : a ≠ b) (e : i + a = i + b) => h (by omega)) List.nodup_range : List.Nodup _).filter _
    have gl : G.length ≤ z.length + 1 := nd_len gn fun j hj => ((gm j).mp hj).1.2
    refine ⟨F ++ G, ?_, fun j => ?_, ?_⟩
    · rw [List.nodup_append]
      exact ⟨nd, gn, fun a ha b hb e => ((gm b).mp hb).2 (e ▸ ha)⟩
    · rw [List.mem_append, gm]
      unfold stp
      rw [if_pos rfl, lz]
      by_cases h : j ∈ F <;> simp [h]
    · have eR : rngD (i : Int) ((z.length : Int) + 1) = (((List.range (z.length + 1 - i)).map (i + ·)).map fun k : Nat => D.int (k : Int)) := by
        unfold rngD
        rw [show ((z.length : Int) + 1 - (i : Int)).toNat = z.length + 1 - i by omega, List.map_map]
        exact List.map_congr_left fun a _ => by show D.int ((i : Int) + (a : Nat)) = D.int ((i + a : Nat) : Int); congr 1
      have lc := lc_filt (own := [6]) (tg := .n 6) (t := T__law_matches_0) (C := C__law_matches_0) (e := [some (.fr (.str p)), some (.fr (.str z)), some O2, some (.fr (.str (one 42))), some (.lst (nl F)), some (.fr (.int (i : Int))), none]) (fun k : Nat => D.int (k : Int)) (fun k : Nat => D.int (k : Int)) (fun k => !decide (k ∈ F)) ((List.range (z.length + 1 - i)).map (i + ·)) (by rw [List.length_map, List.length_range]; omega) fun k hk => ⟨_, rfl, by
        have ni := in_nlN F k
        generalize nl F = NF at *
        generalize (k : Int) = KI at *
        clear nd hb gm gn gl hG eR sz fl lz
        unfold T__law_matches_0 C__law_matches_0
        by_cases h : k ∈ F
        · rw [decide_eq_true h] at ni ⊢
          walk_at "ev"
        · rw [decide_eq_false h] at ni ⊢
          walk_at "ev"⟩
      rw [← eR, ← hG] at lc
      have eN : nl (F ++ G) = nl F ++ G.map fun k : Nat => D.int (k : Int) := nl_app _ _
      have ga : gAdd [.lst (nl F), .lst (G.map fun k : Nat => D.int (k : Int))] = some (.lst (nl F ++ G.map fun k : Nat => D.int (k : Int))) := gAdd_l (by rw [nl_len, List.length_map, sizeLine_eq]; omega)
      have r1 : inR (i : Int) = true := inR_pos (by omega) (by omega)
      have r2 : inR ((z.length : Int) + 1) = true := inR_pos (by omega) (by omega)
      rw [eN]
      unfold B__law_matches_0
      generalize (G.map fun k : Nat => D.int (k : Int)) = GG at *
      generalize nl F = NF at *
      clear nd hb gm gn gl hG eR fl eN sz
      walk_at "ev"
  · by_cases hl : i < z.length
    · have hx : (zl z)[i]? = some (zl z)[i] := List.getElem?_eq_getElem hl
      obtain ⟨x, hx'⟩ : ∃ x, (zl z)[i] = x := ⟨_, rfl⟩
      rw [hx'] at hx
      have ix := ix_sign (by omega) hx
      have ni := in_nlN F (i + 1)
      rw [show ((i + 1 : Nat) : Int) = (i : Int) + 1 by omega] at ni
      have hli : (i : Int) < (z.length : Int) := by omega
      by_cases hm : c = 63 ∨ x = c
      · by_cases hf : i + 1 ∈ F
        · refine ⟨F, nd, fun j => ?_, ?_⟩
          · unfold stp
            rw [if_neg h42]
            constructor
            · exact .inl
            · rintro (h | ⟨rfl, _⟩)
              · exact h
              · exact hf
          · rw [decide_eq_true hf] at ni
            clear nd hb fl hx hx'
            unfold B__law_matches_0
            generalize nl F = NF at *
            generalize (i : Int) = II at *
            rcases hm with e | e
            · subst e
              walk_at "ev"
            · subst e
              by_cases h63 : x = 63
              · subst h63
                walk_at "ev"
              · walk_at "ev"
        · refine ⟨F ++ [i + 1], ?_, fun j => ?_, ?_⟩
          · rw [List.nodup_append]
            exact ⟨nd, by simp, fun a ha b hb e => by have h1 : b = i + 1 := by simpa using hb
                                                      rw [e, h1] at ha; exact hf ha⟩
          · unfold stp
            rw [if_neg h42, List.mem_append, List.mem_singleton]
            constructor
            · rintro (h | rfl)
              · exact .inl h
              · exact .inr ⟨rfl, hl, hm.imp id fun e => by rw [hx, e]⟩
            · rintro (h | ⟨rfl, _⟩)
              · exact .inl h
              · exact .inr rfl
          · rw [decide_eq_false hf] at ni
            have eN : nl (F ++ [i + 1]) = nl F ++ [.int ((i : Int) + 1)] := by rw [nl_app]; rfl
            rw [eN]
            clear nd hb fl hx hx' eN
            unfold B__law_matches_0
            generalize nl F = NF at *
            generalize (i : Int) = II at *
            rcases hm with e | e
            · subst e
              walk_at "ev"
            · subst e
              by_cases h63 : x = 63
              · subst h63
                walk_at "ev"
              · walk_at "ev"
      · have n63 : ¬ c = 63 := fun e => hm (.inl e)
        have nx : ¬ x = c := fun e => hm (.inr e)
        refine ⟨F, nd, fun j => ?_, ?_⟩
        · unfold stp
          rw [if_neg h42]
          constructor
          · exact .inl
          · rintro (h | ⟨rfl, _, h | h⟩)
            · exact h
            · exact absurd h n63
            · rw [hx] at h; exact absurd (Option.some.inj h) nx
        · clear nd hb fl hx hx' hm ni
          unfold B__law_matches_0
          generalize nl F = NF at *
          generalize (i : Int) = II at *
          walk_at "ev"
    · refine ⟨F, nd, fun j => ?_, ?_⟩
      · unfold stp
        rw [if_neg h42, lz]
        constructor
        · exact .inl
        · rintro (h | ⟨_, h, _⟩)
          · exact h
          · exact absurd h hl
      · have hli : ¬ (i : Int) < (z.length : Int) := by omega
        clear nd hb fl
        unfold B__law_matches_0
        generalize nl F = NF at *
        generalize (i : Int) = II at *
        walk_at "ev"
/-- the places of one sign -/
theorem lm_places (p z : Str) (hz : z.length ≤ 1000) (O2 : O) (c : Nat) (hcb : c < 1114112) (R : List Nat) (hR : ∀ j ∈ R, j ≤ z.length) (q5 : Option O) :
    Ev (forL (.n 5) B__law_matches_0 (nl R) [some (.fr (.str p)), some (.fr (.str z)), some O2, some (.fr (.str (one c))), some (.lst []), q5, none])
      (@Dn.hq _ _ ⟨fun fl e => fl = .next ∧ ∃ (F : List Nat) (q5 : Option O), F.Nodup ∧ (∀ j, j ∈ F ↔ ∃ i ∈ R, stp (zl z) c i j) ∧ e = [some (.fr (.str p)), some (.fr (.str z)), some O2, some (.fr (.str (one c))), some (.lst (nl F)), q5, none]⟩) (fun _ _ => False) := by
  refine Ev_forP (α := Nat) (f := fun i : Nat => D.int (i : Int)) (tg := .n 5) (body := B__law_matches_0) (X := fun _ _ => False)
    (fun done e => @Dn.hb _ ⟨fun e => ∃ (F : List Nat) (q5 : Option O), F.Nodup ∧ (∀ j, j ∈ F ↔ ∃ i ∈ done, stp (zl z) c i j) ∧ e = [some (.fr (.str p)), some (.fr (.str z)), some O2, some (.fr (.str (one c))), some (.lst (nl F)), q5, none]⟩ e) _ R [] _
    (hbi ⟨[], q5, List.nodup_nil, fun j => by simp, rfl⟩) ?_ ?_
  · rintro pre i post e he ⟨F, q5, nd, hF, rfl⟩
    rw [List.nil_append] at he
    have hi : i ≤ z.length := hR i (by rw [he]; exact List.mem_append_right _ (.head _))
    have hb : ∀ j ∈ F, j ≤ z.length := fun j hj => by
      obtain ⟨a, _, hs⟩ := (hF j).mp hj
      unfold stp at hs
      have lz : (zl z).length = z.length := rfl
      split at hs <;> omega
    obtain ⟨F', n1, n2, n3⟩ := lm_one p z hz O2 c i hcb hi F nd hb
    refine ⟨_, rfl, ?_⟩
    rw [show ([some (.fr (.str p)), some (.fr (.str z)), some O2, some (.fr (.str (one c))), some (.lst (nl F)), q5, none] : Sl).set 5 (some (.fr (.int (i : Int)))) = [some (.fr (.str p)), some (.fr (.str z)), some O2, some (.fr (.str (one c))), some (.lst (nl F)), some (.fr (.int (i : Int))), none] from rfl]
    rw [n3]
    refine Ev_ok.mpr ?_
    refine hbi ⟨F', _, n1, fun j => ?_, rfl⟩
    rw [n2, hF]
    constructor
    · rintro (⟨a, ha, h⟩ | h)
      · exact ⟨a, List.mem_append_left _ ha, h⟩
      · exact ⟨i, List.mem_append_right _ (.head _), h⟩
    · rintro ⟨a, ha, h⟩
      rcases List.mem_append.mp ha with ha | ha
      · exact .inl ⟨a, ha, h⟩
      · rw [List.mem_singleton.mp ha] at h; exact .inr h
  · rintro e ⟨F, q5, nd, hF, rfl⟩
    exact hqi ⟨rfl, F, q5, nd, hF, rfl⟩
theorem lm_sign (p z : Str) (hp : p.length ≤ 1000) (hz : z.length ≤ 1000) (pre post : List Nat) (c : Nat) (he : zl p = pre ++ c :: post) (hcb : c < 1114112) (R : List Nat) (hR : ∀ j, j ∈ R ↔ j ≤ z.length ∧ acc (zl p) ((zl z).take j) pre.length = true) (O2 : O) (hO : O2 = .lst (nl R) ∨ O2 = .fr (.lst (nl R))) (q4 q5 : Option O) :
    Ev (B__law_matches_1 [some (.fr (.str p)), some (.fr (.str z)), some O2, some (.fr (.str (one c))), q4, q5, none])
      (@Dn.hq _ _ ⟨fun fl e => fl = .next ∧ ∃ (R' : List Nat) (q3 q4 q5 : Option O), (∀ j, j ∈ R' ↔ j ≤ z.length ∧ acc (zl p) ((zl z).take j) (pre.length + 1) = true) ∧ e = [some (.fr (.str p)), some (.fr (.str z)), some (.fr (.lst (nl R'))), q3, q4, q5, none]⟩) (fun _ _ => False) := by
  have hc : (zl p)[pre.length]? = some c := by rw [he, List.getElem?_append_right (Nat.le_refl _), Nat.sub_self]; rfl
  have lz : (zl z).length = z.length := rfl
  have lp := fun q5 => lm_places p z hz (.fr (.lst (nl R))) c hcb R (fun j hj => ((hR j).mp hj).1) q5
  have fin : ∀ (F : List Nat) (q3 q4 q5 : Option O), (∀ j, j ∈ F ↔ ∃ i ∈ R, stp (zl z) c i j) → @Dn.hq Fl Sl ⟨fun fl e => fl = .next ∧ ∃ (R' : List Nat) (q3 q4 q5 : Option O), (∀ j, j ∈ R' ↔ j ≤ z.length ∧ acc (zl p) ((zl z).take j) (pre.length + 1) = true) ∧ e = [some (.fr (.str p)), some (.fr (.str z)), some (.fr (.lst (nl R'))), q3, q4, q5, none]⟩ .next [some (.fr (.str p)), some (.fr (.str z)), some (.fr (.lst (nl F))), q3, q4, q5, none] := fun F q3 q4 q5 hF =>
    hqi ⟨rfl, F, q3, q4, q5, fun j => by
      rw [hF]
      by_cases h42 : c = 42
      · subst h42
        constructor
        · rintro ⟨i, hi, hs⟩
          unfold stp at hs
          rw [if_pos rfl] at hs
          exact ⟨by omega, (acc_stars _ _ _ hc j (by omega)).mpr ⟨i, hs.1, ((hR i).mp hi).2⟩⟩
        · rintro ⟨hj, h⟩
          obtain ⟨i, hi, ha⟩ := (acc_stars _ _ _ hc j (by omega)).mp h
          exact ⟨i, (hR i).mpr ⟨by omega, ha⟩, by unfold stp; rw [if_pos rfl]; exact ⟨hi, by omega⟩⟩
      · constructor
        · rintro ⟨i, hi, hs⟩
          unfold stp at hs
          rw [if_neg h42] at hs
          exact ⟨by omega, (acc_sign _ _ _ c hc h42 j (by omega)).mpr ⟨i, hs.1, hs.2.1, hs.2.2, ((hR i).mp hi).2⟩⟩
        · rintro ⟨hj, h⟩
          obtain ⟨i, e1, e2, e3, ha⟩ := (acc_sign _ _ _ c hc h42 j (by omega)).mp h
          exact ⟨i, (hR i).mpr ⟨by omega, ha⟩, by unfold stp; rw [if_neg h42]; exact ⟨e1, e2, e3⟩⟩, rfl⟩
  have out : ∀ (fl : Fl) (e : Sl) (P : Prop), (fl = .next ∧ ∃ (F : List Nat) (q5 : Option O), F.Nodup ∧ (∀ j, j ∈ F ↔ ∃ i ∈ R, stp (zl z) c i j) ∧ e = [some (.fr (.str p)), some (.fr (.str z)), some (.fr (.lst (nl R))), some (.fr (.str (one c))), some (.lst (nl F)), q5, none]) →
      (∀ F q5, (∀ j, j ∈ F ↔ ∃ i ∈ R, stp (zl z) c i j) → fl = .next → e = [some (.fr (.str p)), some (.fr (.str z)), some (.fr (.lst (nl R))), some (.fr (.str (one c))), some (.lst (nl F)), q5, none] → P) → P := fun fl e P ⟨h1, F, q5, _, h2, h3⟩ h => h F q5 h2 h1 h3
  clear he hc hcb lz
  unfold B__law_matches_1
  rcases hO with rfl | rfl
  all_goals
    clear hR
    generalize nl R = NR at *
    walk_at "ev"
    refine Ev.mono (lp ..) ?_ (fun _ _ (h : False) => h.elim)
    intro fl e zz
    refine out fl e _ zz fun F q5 hF h1 h2 => ?_
    subst h1 h2
    clear lp out zz
    have fin := fun q3 q4 q5 => fin F q3 q4 q5 hF
    clear hF
    generalize nl F = NF at *
    walk_at "ev"
    first | done | exact fin _ _ _
theorem lmatch23 (p z : Str) (hp : PatOk p) (hz : z.length ≤ 1000) : F__law_matches [.fr (.str p), .fr (.str z)] = some (.ok (bO (acc (zl p) (zl z) (zl p).length)) [.fr (.str p), .fr (.str z)]) := by
  have H : FEv (F__law_matches [.fr (.str p), .fr (.str z)]) (@Dn.hq _ _ ⟨fun o os => o = bO (acc (zl p) (zl z) (zl p).length) ∧ os = [.fr (.str p), .fr (.str z)]⟩) (fun _ _ => False) := by
    have lp : Ev (forL (.n 3) B__law_matches_1 ((zl p).map fun c => D.str (one c)) [some (.fr (.str p)), some (.fr (.str z)), some (.lst [.int 0]), none, none, none, none])
        (@Dn.hq _ _ ⟨fun fl e => fl = .next ∧ ∃ (R : List Nat) (O2 : O) (q3 q4 q5 : Option O), (∀ j, j ∈ R ↔ j ≤ z.length ∧ acc (zl p) ((zl z).take j) (zl p).length = true) ∧ (O2 = .lst (nl R) ∨ O2 = .fr (.lst (nl R))) ∧ e = [some (.fr (.str p)), some (.fr (.str z)), some O2, q3, q4, q5, none]⟩) (fun _ _ => False) := by
      refine Ev_forP (α := Nat) (f := fun c => D.str (one c)) (tg := .n 3) (body := B__law_matches_1) (X := fun _ _ => False)
        (fun done e => @Dn.hb _ ⟨fun e => ∃ (R : List Nat) (O2 : O) (q3 q4 q5 : Option O), (∀ j, j ∈ R ↔ j ≤ z.length ∧ acc (zl p) ((zl z).take j) done.length = true) ∧ (O2 = .lst (nl R) ∨ O2 = .fr (.lst (nl R))) ∧ e = [some (.fr (.str p)), some (.fr (.str z)), some O2, q3, q4, q5, none]⟩ e) _ (zl p) [] _
        (hbi ⟨[0], _, none, none, none, fun j => ?_, .inl rfl, rfl⟩) ?_ ?_
      · constructor
        · intro h
          have : j = 0 := by simpa using h
          subst this
          exact ⟨Nat.zero_le _, by rw [List.take_zero]; exact acc_00 _⟩
        · rintro ⟨hj, h⟩
          cases j with
          | zero => exact .head _
          | succ j =>
            have lz : (zl z).length = z.length := rfl
            have hx : (zl z)[j]? = some (zl z)[j] := List.getElem?_eq_getElem (by omega)
            have e : (zl z).take (j + 1) = (zl z).take j ++ [(zl z)[j]] := by rw [List.take_succ, hx]; rfl
            have h : acc (zl p) ((zl z).take (j + 1)) 0 = true := h
            rw [e, acc_0s] at h
            cases h
      · rintro pre c post e he ⟨R, O2, q3, q4, q5, hR, hO, rfl⟩
        rw [List.nil_append] at he
        refine ⟨_, rfl, ?_⟩
        have hcb : c < 1114112 := hp.2 c (by rw [he]; exact List.mem_append_right _ (.head _))
        refine Ev.mono (lm_sign p z hp.1 hz pre post c he hcb R hR O2 hO q4 q5) ?_ (fun _ _ (h : False) => h.elim)
        rintro fl e ⟨rfl, R', q3', q4', q5', hR', rfl⟩
        exact hbi ⟨R', _, q3', q4', q5', fun j => by rw [hR' j, List.length_append]; rfl, .inr rfl, rfl⟩
      · rintro e ⟨R, O2, q3, q4, q5, hR, hO, rfl⟩
        exact hqi ⟨rfl, R, O2, q3, q4, q5, hR, hO, rfl⟩
    have fin : @Dn.hq O (List O) ⟨fun o os => o = bO (acc (zl p) (zl z) (zl p).length) ∧ os = [.fr (.str p), .fr (.str z)]⟩ (bO (acc (zl p) (zl z) (zl p).length)) [.fr (.str p), .fr (.str z)] := hqi ⟨rfl, rfl⟩
    have sg : signs p = (zl p).map fun c => D.str (one c) := rfl
    have zs : z.length ≤ sizeLine := by rw [sizeLine_eq]; omega
    have ps : p.length ≤ sizeLine := by have := hp.1; rw [sizeLine_eq]; omega
    have lz : (zl z).length = z.length := rfl
    unfold F__law_matches G__law_matches
    generalize hA : acc (zl p) (zl z) (zl p).length = A at *
    clear hp
    walk_at "ev"
    have out : ∀ (fl : Fl) (e : Sl) (P : Prop), (fl = .next ∧ ∃ (R : List Nat) (O2 : O) (q3 q4 q5 : Option O), (∀ j, j ∈ R ↔ j ≤ z.length ∧ acc (zl p) ((zl z).take j) (zl p).length = true) ∧ (O2 = .lst (nl R) ∨ O2 = .fr (.lst (nl R))) ∧ e = [some (.fr (.str p)), some (.fr (.str z)), some O2, q3, q4, q5, none]) →
        (∀ R O2 q3 q4 q5, (∀ j, j ∈ R ↔ j ≤ z.length ∧ acc (zl p) ((zl z).take j) (zl p).length = true) → (O2 = .lst (nl R) ∨ O2 = .fr (.lst (nl R))) → fl = .next → e = [some (.fr (.str p)), some (.fr (.str z)), some O2, q3, q4, q5, none] → P) → P := fun fl e P ⟨h1, R, O2, q3, q4, q5, h2, h3, h4⟩ h => h R O2 q3 q4 q5 h2 h3 h1 h4
    refine Ev.mono lp ?_ (fun _ _ (h : False) => h.elim)
    intro fl e zz
    refine out fl e _ zz fun R O2 q3 q4 q5 hR hO h1 h2 => ?_
    subst h1 h2
    have hi := in_nl (o := .lst (nl R)) (.inl rfl) z.length
    have hd : decide (z.length ∈ R) = A := by
      have := hR z.length
      have tk : (zl z).take z.length = zl z := List.take_of_length_le (by omega)
      rw [tk, hA] at this
      cases A with
      | true => exact decide_eq_true (this.mpr ⟨Nat.le_refl _, rfl⟩)
      | false => exact decide_eq_false fun h => by have := (this.mp h).2; cases this
    rw [hd] at hi
    have hi : gIn [.int (z.length : Int), .lst (nl R)] = some (bO A) := hi
    clear lp out zz hR hd
    generalize nl R = NR at *
    rcases hO with rfl | rfl
    all_goals
      walk_at "ev"
      first | done | exact fin
  obtain ⟨o, os, hh', rfl, rfl⟩ := H.get
  exact hh'
/-! values, and what repr tells of them -/
abbrev sOwn : Str := PySem.Str.ofString "own"
def ownD (i : Int) : D := .tup [.str sOwn, .int i]
theorem pl_tupH {ds : List D} (h : ∀ d ∈ ds, d.pl = true) : (D.tup ds).pl = true := by rw [D.pl]; exact D.pls_of h
inductive H23 : D → Prop
  | non : H23 .non
  | own (i : Int) : 0 ≤ i → i ≤ 2 → H23 (ownD i)
  | int (i : Int) : -2 ≤ i → i ≤ 1 → H23 (.int i)
  | str (z : Str) : LtrZ z → z.length ≤ 4 → H23 (.str z)
def isN : D → Bool
  | .non => true
  | _ => false
def eqB (a b : D) : Bool := match gEq [a, b] with
  | some (.fr (.bl c)) => c
  | _ => false
theorem H23.shp {a : D} (h : H23 a) : (∃ k, k ≤ 1 ∧ Shp k a) ∧ a.pl = true := by
  cases h with
  | non => exact ⟨⟨0, by omega, shp_non⟩, by rw [D.pl]⟩
  | own i _ _ => exact ⟨⟨1, by omega, shp_tup (k := 0) fun x hx => by
      rcases List.mem_cons.mp hx with rfl | hx
      · exact shp_str (by decide +kernel)
      · rw [List.mem_singleton.mp hx]; exact shp_int i⟩, pl_tupH fun x hx => by
      rcases List.mem_cons.mp hx with rfl | hx
      · rw [D.pl]
      · rw [List.mem_singleton.mp hx]; rw [D.pl]⟩
  | int i _ _ => exact ⟨⟨0, by omega, shp_int i⟩, by rw [D.pl]⟩
  | str z hz _ => exact ⟨⟨0, by omega, shp_str hz.ok⟩, by rw [D.pl]⟩
theorem H23.sh {a : D} (h : H23 a) : Dn.shp a = true := by
  obtain ⟨⟨k, hk, hs⟩, _⟩ := h.shp
  exact hs.shp (by omega)
theorem H23.eq {a b : D} (ha : H23 a) (hb : H23 b) : gEq [a, b] = some (bO (eqB a b)) ∧ (eqB a b = true ↔ a = b) := by
  have key : ∀ c : Bool, gEq [a, b] = some (bO c) → (c = true ↔ a = b) → gEq [a, b] = some (bO (eqB a b)) ∧ (eqB a b = true ↔ a = b) := fun c h h2 => by
    have : eqB a b = c := by unfold eqB; rw [h]
    rw [this]; exact ⟨h, h2⟩
  have gen : gEq [a, b] = (if (Dn.shp a && Dn.shp b) = true then some (bO (D.eqv a b)) else none) → gEq [a, b] = some (bO (eqB a b)) ∧ (eqB a b = true ↔ a = b) := fun h => by
    refine key (D.eqv a b) ?_ (D.eqv_same ha.shp.2 hb.shp.2)
    rw [h, ha.sh, hb.sh]
    first | done | rfl
  cases ha with
  | non => cases hb <;> exact gen rfl
  | own i _ _ => cases hb <;> exact gen rfl
  | int i _ _ => cases hb with
    | int j _ _ => exact key (decide (i = j)) rfl (by rw [decide_eq_true_iff]; exact ⟨fun e => by rw [e], fun e => by injection e⟩)
    | _ => exact gen rfl
  | str z _ _ => cases hb with
    | str y _ _ => exact key (decide (z = y)) rfl (by rw [decide_eq_true_iff]; exact ⟨fun e => by rw [e], fun e => by injection e⟩)
    | _ => exact gen rfl
theorem H23.isn {a : D} (h : H23 a) : gIsN [a, .non] = some (bO (isN a)) ∧ gNotN [a, .non] = some (bO (!isN a)) := by
  cases h <;> exact ⟨rfl, rfl⟩
/-- repr's text -/
def rp (d : D) : Str := d.py.shown
theorem rch (c : Nat) (h : 97 ≤ c ∧ c ≤ 122) : PySem.Builtin.Str.reprChar 39 c = [c] := by
  have key : ∀ n : Nat, n < 26 → PySem.Builtin.Str.reprChar 39 (97 + n) = [97 + n] := by decide +kernel
  obtain ⟨n, rfl⟩ : ∃ n, c = 97 + n := ⟨c - 97, by omega⟩
  exact key n (by omega)
theorem rp_fold : ∀ (l : List Nat) (acc : Array Nat), (∀ c ∈ l, 97 ≤ c ∧ c ≤ 122) → (l.foldl (fun out c => out ++ (PySem.Builtin.Str.reprChar 39 c).toArray) acc).toList = acc.toList ++ l
  | [], acc, _ => by simp
  | c :: l, acc, h => by
    rw [List.foldl_cons, rp_fold l _ fun d hd => h d (.tail _ hd), rch c (h c (.head _))]
    simp
theorem rp_str {z : Str} (h : LtrZ z) : zl (rp (.str z)) = 39 :: (zl z ++ [39]) := by
  have e0 : rp (.str z) = PySem.reprText z := by unfold rp; rw [D.py]; simp [PyData.shown]
  have c39 : z.cps.contains 39 = false := by
    rw [← Array.contains_toList, List.contains_eq_any_beq, List.any_eq_false]
    intro x hx
    have := h x hx
    simp; omega
  have q : PySem.reprQuote z = 39 := by unfold PySem.reprQuote; rw [c39]; rfl
  rw [e0]
  unfold PySem.reprText
  rw [q]
  show (Array.push _ 39).toList = _
  rw [Array.toList_push, ← Array.foldl_toList, rp_fold _ _ h]
  simp
def f7 : List D := [.int (-2), .int (-1), .int 0, .int 1, ownD 0, ownD 1, ownD 2]
theorem f7_in {d : D} (h : H23 d) (n : d ≠ .non) : (∃ i, ∃ hi : i < f7.length, f7[i] = d) ∨ ∃ z, d = .str z ∧ LtrZ z ∧ z.length ≤ 4 := by
  cases h with
  | non => exact absurd rfl n
  | own i h0 h1 =>
    have : i = 0 ∨ i = 1 ∨ i = 2 := by omega
    rcases this with rfl | rfl | rfl
    · exact .inl ⟨4, by decide, rfl⟩
    · exact .inl ⟨5, by decide, rfl⟩
    · exact .inl ⟨6, by decide, rfl⟩
  | int i h0 h1 =>
    have : i = -2 ∨ i = -1 ∨ i = 0 ∨ i = 1 := by omega
    rcases this with rfl | rfl | rfl | rfl
    · exact .inl ⟨0, by decide, rfl⟩
    · exact .inl ⟨1, by decide, rfl⟩
    · exact .inl ⟨2, by decide, rfl⟩
    · exact .inl ⟨3, by decide, rfl⟩
  | str z h0 h1 => exact .inr ⟨z, rfl, h0, h1⟩
def t7 : List Str := [PySem.Str.ofString "-2", PySem.Str.ofString "-1", PySem.Str.ofString "0", PySem.Str.ofString "1", PySem.Str.ofString "('own', 0)", PySem.Str.ofString "('own', 1)", PySem.Str.ofString "('own', 2)"]
theorem rp7 : f7.map rp = t7 := by kernel_rfl
theorem t7_ne : ∀ i j : Nat, i < 7 → j < 7 → (t7.getD i default = t7.getD j default) → i = j := by
  have : ∀ i, i < 7 → ∀ j, j < 7 → (t7.getD i default = t7.getD j default) → i = j := by decide +kernel
  exact fun i j hi hj => this i hi j hj
theorem t7_39 : ∀ i, i < 7 → (zl (t7.getD i default)).head? ≠ some 39 := by decide +kernel
theorem rp_at {i : Nat} (hi : i < f7.length) : rp f7[i] = t7.getD i default := by
  have h2 : i < t7.length := hi
  have e : (f7.map rp)[i]? = t7[i]? := by rw [rp7]
  rw [List.getElem?_map, List.getElem?_eq_getElem hi, List.getElem?_eq_getElem h2] at e
  exact (Option.some.inj e).trans (by rw [List.getD_eq_getElem?_getD, List.getElem?_eq_getElem h2]; rfl)
theorem rp_eq {a b : D} (ha : H23 a) (hb : H23 b) (na : a ≠ .non) (nb : b ≠ .non) : rp a = rp b ↔ a = b := by
  refine ⟨fun e => ?_, fun e => by rw [e]⟩
  rcases f7_in ha na with ⟨i, hi, rfl⟩ | ⟨y, rfl, hy, _⟩
  · rcases f7_in hb nb with ⟨j, hj, rfl⟩ | ⟨z, rfl, hz, _⟩
    · rw [rp_at hi, rp_at hj] at e
      have := t7_ne i j hi hj e
      subst this; rfl
    · rw [rp_at hi] at e
      have h := t7_39 i hi
      rw [e, rp_str hz] at h
      exact absurd rfl h
  · rcases f7_in hb nb with ⟨j, hj, rfl⟩ | ⟨z, rfl, hz, _⟩
    · rw [rp_at hj] at e
      have h := t7_39 j hj
      rw [← e, rp_str hy] at h
      exact absurd rfl h
    · have h : zl (rp (.str y)) = zl (rp (.str z)) := by rw [e]
      rw [rp_str hy, rp_str hz] at h
      have h := List.append_cancel_right (List.cons.inj h).2
      have : y = z := by
        obtain ⟨a⟩ := y
        obtain ⟨b⟩ := z
        have h : a.toList = b.toList := h
        rw [Array.toList_inj.mp h]
      rw [this]
theorem rp_len {d : D} (h : H23 d) : d.py.shown.length ≤ sizeLine ∧ d.py.showable = true := by
  by_cases n : d = .non
  · subst n
    exact ⟨by rw [D.py]; simp [PyData.shown]; decide +kernel, by rw [D.py]; simp [PyData.showable]⟩
  · rcases f7_in h n with ⟨i, hi, rfl⟩ | ⟨z, rfl, hz, hl⟩
    · refine ⟨?_, ?_⟩
      · show (rp f7[i]).length ≤ _
        rw [rp_at hi]
        have : ∀ i, i < 7 → (t7.getD i default).length ≤ 100 := by decide +kernel
        have := this i hi
        rw [sizeLine_eq]; omega
      · have : f7.all (fun d => d.py.showable) = true := by kernel_rfl
        exact List.all_eq_true.mp this _ (List.getElem_mem hi)
    · refine ⟨?_, by rw [D.py]; simp [PyData.showable]⟩
      show (rp (.str z)).length ≤ _
      have : (zl (rp (.str z))).length = z.length + 2 := by rw [rp_str hz]; simp; rfl
      have e : (rp (.str z)).length = (zl (rp (.str z))).length := rfl
      rw [e, this, sizeLine_eq]; omega
theorem repr_ok {d : D} (h : H23 d) : gRepr [d] = some (sO (rp d)) := by
  obtain ⟨h1, h2⟩ := rp_len h
  show (if Dn.shp d && (d.py.showable && decide (d.py.shown.length ≤ sizeLine)) then some (sO d.py.shown) else none) = _
  rw [h.sh, h2, decide_eq_true h1]
  rfl
theorem rp_cmp {a b : D} (ha : H23 a) (hb : H23 b) (na : a ≠ .non) (nb : b ≠ .non) : gEq [.str (rp a), .str (rp b)] = some (bO (eqB a b)) := by
  rw [gEq_z]
  congr 2
  have e1 := rp_eq ha hb na nb
  have e2 := (ha.eq hb).2
  by_cases h : a = b
  · rw [decide_eq_true (e1.mpr h), e2.mpr h]
  · rw [decide_eq_false fun z => h (e1.mp z)]
    cases q : eqB a b with
    | false => rfl
    | true => exact absurd (e2.mp q) h
/-! whether a condition holds -/
mutual
def Cn.ev (m : Str → D) : Cn → Bool
  | .at0 w => w
  | .mat n p => match m n with
    | .str z => acc (zl p) (zl z) (zl p).length
    | _ => false
  | .sam a b => !isN (m a) && eqB (m a) (m b)
  | .emp a => isN (m a)
  | .nt c => !Cn.ev m c
  | .nd w cs => if w then Cn.evA m cs else Cn.evO m cs
def Cn.evA (m : Str → D) : List Cn → Bool
  | [] => true
  | c :: cs => Cn.ev m c && Cn.evA m cs
def Cn.evO (m : Str → D) : List Cn → Bool
  | [] => false
  | c :: cs => Cn.ev m c || Cn.evO m cs
end
theorem evA_all (m : Str → D) : ∀ cs : List Cn, Cn.evA m cs = (cs.map (Cn.ev m)).all id
  | [] => by rw [Cn.evA]; rfl
  | c :: cs => by rw [Cn.evA, evA_all m cs]; simp
theorem evO_any (m : Str → D) : ∀ cs : List Cn, Cn.evO m cs = (cs.map (Cn.ev m)).any id
  | [] => by rw [Cn.evO]; rfl
  | c :: cs => by rw [Cn.evO, evO_any m cs]; simp
structure MO23 (N : List Str) (ks : List L2.Key) (xs : List D) (m : Str → D) : Prop where
  g : ∀ n ∈ N, getK ks xs (.inr n) = some (m n)
  v : ∀ n ∈ N, H23 (m n)
theorem bools_map {α : Type} (g : α → Bool) : ∀ xs : List α, boolsD (xs.map fun x => D.bl (g x)) = some (xs.map g)
  | [] => rfl
  | x :: xs => by
    rw [List.map_cons, List.map_cons]
    unfold boolsD
    rw [bools_map g xs]; rfl
theorem gAll_map {α : Type} (g : α → Bool) (xs : List α) : gAll [.lst (xs.map fun x => D.bl (g x))] = some (bO ((xs.map g).all id)) := by
  show (boolsD (xs.map fun x => D.bl (g x))).map _ = _
  rw [bools_map]; rfl
theorem gAny_map {α : Type} (g : α → Bool) (xs : List α) : gAny [.lst (xs.map fun x => D.bl (g x))] = some (bO ((xs.map g).any id)) := by
  show (boolsD (xs.map fun x => D.bl (g x))).map _ = _
  rw [bools_map]; rfl
theorem hw23 : ¬ PySem.Str.ofString "not" = PySem.Str.ofString "always" ∧ ¬ PySem.Str.ofString "not" = PySem.Str.ofString "never" ∧ ¬ PySem.Str.ofString "not" = PySem.Str.ofString "and" ∧ ¬ PySem.Str.ofString "not" = PySem.Str.ofString "or" ∧
  ¬ PySem.Str.ofString "and" = PySem.Str.ofString "always" ∧ ¬ PySem.Str.ofString "and" = PySem.Str.ofString "never" ∧ ¬ PySem.Str.ofString "and" = PySem.Str.ofString "not" ∧
  ¬ PySem.Str.ofString "or" = PySem.Str.ofString "always" ∧ ¬ PySem.Str.ofString "or" = PySem.Str.ofString "never" ∧ ¬ PySem.Str.ofString "or" = PySem.Str.ofString "and" ∧ ¬ PySem.Str.ofString "or" = PySem.Str.ofString "not" := by decide +kernel
theorem hw23b : ∀ z ∈ [sMat, sSam, sEmp], ¬ z = PySem.Str.ofString "always" ∧ ¬ z = PySem.Str.ofString "never" ∧ ¬ z = PySem.Str.ofString "not" ∧ ¬ z = PySem.Str.ofString "and" ∧ ¬ z = PySem.Str.ofString "or" := by decide +kernel
theorem hw23c : ¬ PySem.Str.ofString "matches" = PySem.Str.ofString "empty" ∧ ¬ PySem.Str.ofString "same" = PySem.Str.ofString "empty" ∧ ¬ PySem.Str.ofString "same" = PySem.Str.ofString "matches" ∧ ¬ PySem.Str.ofString "empty" = PySem.Str.ofString "matches" ∧ ¬ PySem.Str.ofString "never" = PySem.Str.ofString "always" ∧ ¬ PySem.Str.ofString "always" = PySem.Str.ofString "never" := by decide +kernel
theorem PatZ.pok {p : Str} (h : PatZ p) : PatOk p := ⟨by have := h.2; omega, fun c hc => h.ok c hc⟩
theorem cut1_c3 (x : D) (xs : List D) : cutD (x :: xs) (some 1) none = xs := by rw [cutD_1]; rfl
theorem nd_d (w : Bool) (cs : List Cn) : (Cn.nd w cs).d = .tup (.str (if w then PySem.Str.ofString "and" else PySem.Str.ofString "or") :: cs.map Cn.d) := by
  rw [Cn.d, Cn.ds_map]; cases w <;> rfl
/-! the law's own reading -/
theorem len_snoc {α : Type} (xs : List α) (p : α → Bool) (x : α) : (((xs ++ [x]).filter p).length : Int) = ((xs.filter p).length : Int) + (if p x then 1 else 0) := by
  rw [List.filter_append, List.length_append]
  cases h : p x <;> simp [h]
theorem isN_ne {d : D} (n : d ≠ .non) : isN d = false := by cases d <;> first | rfl | exact absurd rfl n
theorem all_count (bs : List Bool) : bs.all id = decide (((bs.filter id).length : Int) = (bs.length : Int)) := by
  induction bs with
  | nil => rfl
  | cons b bs ih =>
    have hl : (bs.filter id).length ≤ bs.length := List.length_filter_le _ _
    cases b with
    | true =>
      rw [List.all_cons, ih, List.filter_cons_of_pos (by rfl), List.length_cons, List.length_cons]
      by_cases h : ((bs.filter id).length : Int) = (bs.length : Int)
      · rw [decide_eq_true h, decide_eq_true (by omega)]; rfl
      · rw [decide_eq_false h, decide_eq_false (by omega)]; rfl
    | false =>
      rw [List.all_cons, List.filter_cons_of_neg (by decide), List.length_cons]
      have : ¬ ((bs.filter id).length : Int) = ((bs.length + 1 : Nat) : Int) := by omega
      rw [decide_eq_false this]; rfl
theorem any_count (bs : List Bool) : bs.any id = decide (((bs.filter id).length : Int) > 0) := by
  induction bs with
  | nil => rfl
  | cons b bs ih =>
    cases b with
    | true =>
      rw [List.any_cons, List.filter_cons_of_pos (by rfl), List.length_cons]
      have : (((bs.filter id).length + 1 : Nat) : Int) > 0 := by omega
      rw [decide_eq_true this]; rfl
    | false =>
      rw [List.any_cons, List.filter_cons_of_neg (by decide), ih]; rfl
section
variable {N R : List Str} {ks : List L2.Key} {xs : List D} {m : Str → D} {M : O}
theorem lholds23 (hM : M.d = .dct ks xs) (mo : MO23 N ks xs m) (hRN : ∀ z ∈ R, z ∈ N) : ∀ (n dp : Nat) (c : Cn), dp ≤ n → c.size ≤ 100 → COk N R dp c → F__law_holds n [.fr c.d, M] = some (.ok (bO (c.ev m)) [.fr c.d, M])
  | 0, dp, c, h, _, hc => by cases hc <;> omega
  | n + 1, dp, c, h, hsz, hc => by
    have ih := lholds23 hM mo hRN n
    have w1 := hw23
    obtain ⟨a1, a2, a3, a4, b1, b2, b3, c1, c2, c3, c4⟩ := w1
    have w3 := hw23c
    obtain ⟨d1, d2, d3, d4, d5, d6⟩ := w3
    unfold F__law_holds G__law_holds
    cases hc with
    | at0 n w =>
      cases w with
      | true =>
        have e : (Cn.at0 true).d = .tup [.str (PySem.Str.ofString "always")] := by rw [Cn.d]; rfl
        have e2 : (Cn.at0 true).ev m = true := by rw [Cn.ev]
        rw [e, e2]
        clear ih mo e e2 hM hsz
        walk_at "evd"
      | false =>
        have e : (Cn.at0 false).d = .tup [.str (PySem.Str.ofString "never")] := by rw [Cn.d]; rfl
        have e2 : (Cn.at0 false).ev m = false := by rw [Cn.ev]
        rw [e, e2]
        clear ih mo e e2 hM hsz
        walk_at "evd"
    | nt k c hc =>
      rw [Cn.size] at hsz
      have i1 := ih k c (by omega) (by omega) hc
      have e : (Cn.nt c).d = .tup [.str (PySem.Str.ofString "not"), c.d] := by rw [Cn.d]
      have e2 : (Cn.nt c).ev m = !c.ev m := by rw [Cn.ev]
      rw [e, e2]
      generalize c.d = CD at *
      generalize c.ev m = cv at *
      clear ih mo e e2 hM hc hsz
      walk_at "evd"
    | nd k w cs hc =>
      have hlen : cs.length ≤ 100 := by rw [Cn.size] at hsz; have := szs_len cs; omega
      have sub : ∀ x ∈ cs, x.size ≤ 100 := fun x hx => by
        rw [Cn.size] at hsz
        have : ∀ cs : List Cn, x ∈ cs → x.size ≤ Cn.sizes cs := fun cs => by
          induction cs with
          | nil => intro h; cases h
          | cons c cs ih =>
            intro h
            rw [Cn.sizes]
            rcases List.mem_cons.mp h with e | h
            · rw [e]; omega
            · have := ih h; omega
        have := this cs hx
        omega
      have lp : ∀ (W CDD : D) , Ev (forL (.n 4) (B__law_holds_0 (F__law_holds n)) (cs.map Cn.d) [some (.fr CDD), some M, some (.fr W), some (.fr (.int 0)), none, none])
          (@Dn.hq _ _ ⟨fun fl e => fl = .next ∧ ∃ q4, e = [some (.fr CDD), some M, some (.fr W), some (.fr (.int (((cs.map (Cn.ev m)).filter id).length : Int))), q4, none]⟩) (fun _ _ => False) := fun W CDD => by
        refine Ev_forP (α := Cn) (f := fun x : Cn => x.d) (tg := .n 4) (body := B__law_holds_0 (F__law_holds n)) (X := fun _ _ => False)
          (fun done e => @Dn.hb _ ⟨fun e => ∃ q4, e = [some (.fr CDD), some M, some (.fr W), some (.fr (.int (((done.map (Cn.ev m)).filter id).length : Int))), q4, none]⟩ e) _ cs [] _ (hbi ⟨none, rfl⟩) ?_ ?_
        · rintro pre x post e he ⟨q4, rfl⟩
          rw [List.nil_append] at he
          refine ⟨_, rfl, ?_⟩
          have hx : x ∈ cs := by rw [he]; exact List.mem_append_right _ (.head _)
          have ix := ih k x (by omega) (sub x hx) (hc x hx)
          have sn := len_snoc (pre.map (Cn.ev m)) id (x.ev m)
          have em : (pre ++ [x]).map (Cn.ev m) = pre.map (Cn.ev m) ++ [x.ev m] := by rw [List.map_append]; rfl
          have f1 : x.ev m = true → ∀ q4, @Dn.hb Sl ⟨fun e => ∃ q4, e = [some (.fr CDD), some M, some (.fr W), some (.fr (.int ((((pre ++ [x]).map (Cn.ev m)).filter id).length : Int))), q4, none]⟩ [some (.fr CDD), some M, some (.fr W), some (.fr (.int ((((pre.map (Cn.ev m)).filter id).length : Int) + 1))), q4, none] := fun q q4 => hbi ⟨q4, by rw [em, sn, q]; rfl⟩
          have f0 : x.ev m = false → ∀ q4, @Dn.hb Sl ⟨fun e => ∃ q4, e = [some (.fr CDD), some M, some (.fr W), some (.fr (.int ((((pre ++ [x]).map (Cn.ev m)).filter id).length : Int))), q4, none]⟩ [some (.fr CDD), some M, some (.fr W), some (.fr (.int (((pre.map (Cn.ev m)).filter id).length : Int))), q4, none] := fun q q4 => hbi ⟨q4, by rw [em, sn, q]; simp⟩
          generalize (((pre.map (Cn.ev m)).filter id).length : Int) = LI at *
          generalize x.d = XD at *
          unfold B__law_holds_0
          clear he hx hc sub hsz hlen ih mo hM sn em a1 a2 a3 a4 b1 b2 b3 c1 c2 c3 c4 d1 d2 d3 d4 d5 d6
          cases q : x.ev m with
          | true =>
            rw [q] at ix
            have f1 := f1 q
            clear q f0
            walk_at "evd"
            first | done | exact f1 _
          | false =>
            rw [q] at ix
            have f0 := f0 q
            clear q f1
            walk_at "evd"
            first | done | exact f0 _
        · rintro e ⟨q4, rfl⟩
          exact hqi ⟨rfl, q4, rfl⟩
      have out : ∀ (W CDD : D) (fl : Fl) (e : Sl) (P : Prop), (fl = .next ∧ ∃ q4, e = [some (.fr CDD), some M, some (.fr W), some (.fr (.int (((cs.map (Cn.ev m)).filter id).length : Int))), q4, none]) → (∀ q4, fl = .next → e = [some (.fr CDD), some M, some (.fr W), some (.fr (.int (((cs.map (Cn.ev m)).filter id).length : Int))), q4, none] → P) → P := fun W CDD fl e P ⟨h1, q4, h2⟩ h => h q4 h1 h2
      have ll : (cs.map Cn.d).length = cs.length := List.length_map _
      have lb : (cs.map (Cn.ev m)).length = cs.length := List.length_map _
      have ac := all_count (cs.map (Cn.ev m))
      have nc := any_count (cs.map (Cn.ev m))
      rw [lb] at ac
      have fn : ∀ (X : D) (W : Str), (FEv (F__law_holds (n + 1) [.fr X, M]) (@hq _ _ ⟨fun o os => o = bO ((Cn.nd w cs).ev m) ∧ os = [.fr X, M]⟩) (fun _ _ => False)) → F__law_holds (n + 1) [.fr X, M] = some (.ok (bO ((Cn.nd w cs).ev m)) [.fr X, M]) := fun X W H => by
        obtain ⟨o, os, hh', rfl, rfl⟩ := H.get
        exact hh'
      refine fn _ sAnd ?_
      unfold F__law_holds G__law_holds
      clear fn
      cases w with
      | true =>
        have e : (Cn.nd true cs).d = .tup (.str (PySem.Str.ofString "and") :: cs.map Cn.d) := nd_d true cs
        have e2 : (Cn.nd true cs).ev m = (cs.map (Cn.ev m)).all id := by rw [Cn.ev, if_pos rfl, evA_all]
        have ct := cut1_c3 (.str (PySem.Str.ofString "and")) (cs.map Cn.d)
        rw [e, e2, ac]
        have fin : @hq O (List O) ⟨fun o os => o = bO (decide (((cs.map (Cn.ev m)).filter id).length = (cs.length : Int))) ∧ os = [.fr (.tup (.str (PySem.Str.ofString "and") :: cs.map Cn.d)), M]⟩ (bO (decide ((((cs.map (Cn.ev m)).filter id).length : Int) = (cs.length : Int)))) [.fr (.tup (.str (PySem.Str.ofString "and") :: cs.map Cn.d)), M] := hqi ⟨rfl, rfl⟩
        have lp := lp (.str (PySem.Str.ofString "and")) (.tup (.str (PySem.Str.ofString "and") :: cs.map Cn.d))
        have out := out (.str (PySem.Str.ofString "and")) (.tup (.str (PySem.Str.ofString "and") :: cs.map Cn.d))
        have gl : gLen [.tup (.str (PySem.Str.ofString "and") :: cs.map Cn.d)] = some (iO ((cs.length : Int) + 1)) := by rw [gLen_t, List.length_cons, ll]; congr 2
        have gs : ((cs.length : Int) + 1) - 1 = (cs.length : Int) := by omega
        clear ih mo e e2 hM hc sub hsz ac nc ll lb
        generalize cs.map Cn.d = CD at *
        generalize (((cs.map (Cn.ev m)).filter id).length : Int) = LI at *
        generalize (cs.length : Int) = CL at *
        walk_at "evd"
        refine Ev.mono lp ?_ (fun _ _ (h : False) => h.elim)
        intro fl e zz
        refine out fl e _ zz fun q4 h1 h2 => ?_
        subst h1 h2
        clear lp out zz
        walk_at "evd"
        first | done | exact fin
      | false =>
        have e : (Cn.nd false cs).d = .tup (.str (PySem.Str.ofString "or") :: cs.map Cn.d) := nd_d false cs
        have e2 : (Cn.nd false cs).ev m = (cs.map (Cn.ev m)).any id := by rw [Cn.ev, if_neg (by decide), evO_any]
        have ct := cut1_c3 (.str (PySem.Str.ofString "or")) (cs.map Cn.d)
        rw [e, e2, nc]
        have fin : @hq O (List O) ⟨fun o os => o = bO (decide ((((cs.map (Cn.ev m)).filter id).length : Int) > 0)) ∧ os = [.fr (.tup (.str (PySem.Str.ofString "or") :: cs.map Cn.d)), M]⟩ (bO (decide ((((cs.map (Cn.ev m)).filter id).length : Int) > 0))) [.fr (.tup (.str (PySem.Str.ofString "or") :: cs.map Cn.d)), M] := hqi ⟨rfl, rfl⟩
        have lp := lp (.str (PySem.Str.ofString "or")) (.tup (.str (PySem.Str.ofString "or") :: cs.map Cn.d))
        have out := out (.str (PySem.Str.ofString "or")) (.tup (.str (PySem.Str.ofString "or") :: cs.map Cn.d))
        clear ih mo e e2 hM hc sub hsz ac nc ll lb
        generalize cs.map Cn.d = CD at *
        generalize (((cs.map (Cn.ev m)).filter id).length : Int) = LI at *
        walk_at "evd"
        refine Ev.mono lp ?_ (fun _ _ (h : False) => h.elim)
        intro fl e zz
        refine out fl e _ zz fun q4 h1 h2 => ?_
        subst h1 h2
        clear lp out zz
        walk_at "evd"
        first | done | exact fin
    | emp k a ha =>
      have e : (Cn.emp a).d = .tup [.str (PySem.Str.ofString "empty"), .str a] := by rw [Cn.d]
      have e2 : (Cn.emp a).ev m = isN (m a) := by rw [Cn.ev]
      have hw := hw23b sEmp (by simp)
      obtain ⟨h1, h2, h3, h4, h5⟩ := hw
      have g := mo.g a (hRN a ha)
      have i := (mo.v a (hRN a ha)).isn.1
      rw [e, e2]
      generalize m a = ma at *
      clear ih mo e e2 ha hsz
      walk_at "evd"
    | mat k a p ha hp =>
      have e : (Cn.mat a p).d = .tup [.str (PySem.Str.ofString "matches"), .str a, .str p] := by rw [Cn.d]
      have e2 : (Cn.mat a p).ev m = (match m a with | .str z => acc (zl p) (zl z) (zl p).length | _ => false) := by first | (rw [Cn.ev]; done) | (rw [Cn.ev]; cases m a <;> rfl)
      have hw := hw23b sMat (by simp)
      obtain ⟨h1, h2, h3, h4, h5⟩ := hw
      have g := mo.g a ha
      have hv := mo.v a ha
      rw [e, e2]
      generalize m a = ma at *
      cases hv with
      | non =>
        clear ih mo e e2 ha hsz
        walk_at "evd"
      | own i _ _ =>
        unfold ownD at *
        clear ih mo e e2 ha hsz
        walk_at "evd"
      | int i _ _ =>
        clear ih mo e e2 ha hsz
        walk_at "evd"
      | str z hz hl =>
        have mk := lmatch23 p z hp.pok (by omega)
        dsimp only
        generalize acc (zl p) (zl z) (zl p).length = AC at *
        clear ih mo e e2 ha hz hsz hp hl
        walk_at "evd"
    | sam k a b ha hb =>
      have e : (Cn.sam a b).d = .tup [.str (PySem.Str.ofString "same"), .str a, .str b] := by rw [Cn.d]
      have e2 : (Cn.sam a b).ev m = (!isN (m a) && eqB (m a) (m b)) := by rw [Cn.ev]
      have hw := hw23b sSam (by simp)
      obtain ⟨h1, h2, h3, h4, h5⟩ := hw
      have g := mo.g a ha
      have g' := mo.g b hb
      have va := mo.v a ha
      have vb := mo.v b hb
      have i := va.isn.1
      have i' := vb.isn.1
      have r1 := repr_ok va
      have r2 := repr_ok vb
      rw [e, e2]
      generalize m a = ma at *
      generalize m b = mb at *
      by_cases na : ma = .non
      · subst na
        have en : isN .non = true := rfl
        rw [en] at i ⊢
        clear ih mo e e2 ha hb hsz va vb r1 r2 en
        generalize isN mb = bn at *
        walk_at "evd"
      · have en : isN ma = false := isN_ne na
        rw [en] at i ⊢
        by_cases nb : mb = .non
        · subst nb
          have en2 : isN .non = true := rfl
          rw [en2] at i'
          have ef : eqB ma .non = false := by
            cases q : eqB ma .non with
            | false => rfl
            | true => exact absurd ((va.eq vb).2.mp q) na
          rw [ef]
          clear ih mo e e2 ha hb hsz va vb r1 r2 en en2 ef na
          walk_at "evd"
        · have en2 : isN mb = false := isN_ne nb
          rw [en2] at i'
          have rc := rp_cmp va vb na nb
          clear ih mo e e2 ha hb hsz va vb en en2 na nb
          generalize rp ma = RA at *
          generalize rp mb = RB at *
          generalize eqB ma mb = be at *
          walk_at "evd"
end
/-! drawn values and meanings -/
theorem val_ex (k : Dk) (es : List D) (he : ∀ d ∈ es, H23 d) (hl : es.length ≤ 100) : ∃ d k', F__law_value [dk k, .lst es] = some (.ok (.fr d) [dk k', .lst es]) ∧ H23 d := by
  have H : FEv (F__law_value [dk k, .lst es]) (@hq _ _ ⟨fun o os => ∃ d k', o = .fr d ∧ os = [dk k', .lst es] ∧ H23 d⟩) (fun _ _ => False) := by
    have d6 := draw_ok k 6 (by omega) (by omega)
    have b6 := draw_bd k (b := 6) (by omega) (by omega)
    generalize hk1 : dN k 6 = k1 at *
    have d4 := draw_ok k1 4 (by omega) (by omega)
    have b4 := draw_bd k1 (b := 4) (by omega) (by omega)
    have d3 := draw_ok k1 3 (by omega) (by omega)
    have b3 := draw_bd k1 (b := 3) (by omega) (by omega)
    obtain ⟨z, kz, tx, lz, ll, _⟩ := dtext_ex k1 4 (by omega) (by omega)
    have fin : ∀ d k', H23 d → @hq O (List O) ⟨fun o os => ∃ d k', o = .fr d ∧ os = [dk k', .lst es] ∧ H23 d⟩ (.fr d) [dk k', .lst es] := fun d k' h => hqi ⟨d, k', rfl, rfl, h⟩
    have f0 := fun k' => fin .non k' .non
    have f1 := fun k' => fin (.int (dV k1 4 - 2)) k' (.int _ (by omega) (by omega))
    have f2 := fun k' => fin (ownD (dV k1 3)) k' (.own _ (by omega) (by omega))
    have f4 := fun k' => fin (.str z) k' (.str z lz (by omega))
    unfold F__law_value G__law_value
    clear hk1 lz ll b4 b3
    generalize dV k 6 = V6 at *
    generalize dV k1 4 = V4 at *
    generalize dV k1 3 = V3 at *
    by_cases e0 : V6 = 0
    · subst e0
      clear fin f1 f2 f4 d4 d3 tx he hl b6
      walk_at "evd"
      first | done | exact f0 _
    · by_cases e1 : V6 = 1
      · subst e1
        clear fin f0 f2 f4 d3 tx he hl b6 e0
        walk_at "evd"
        first | done | exact f1 _
      · by_cases e2 : V6 = 2
        · subst e2
          clear fin f0 f1 f4 d4 tx he hl b6 e0 e1
          unfold ownD at f2
          walk_at "evd"
          first | done | exact f2 _
        · by_cases e3 : V6 = 3 ∧ 0 < es.length
          · obtain ⟨e3, e4⟩ := e3
            subst e3
            have dl := draw_ok k1 (es.length : Int) (by omega) (by omega)
            have bl := draw_bd k1 (b := (es.length : Int)) (by omega) (by omega)
            obtain ⟨x, hx, hm⟩ := atI_some (xs := es) (i := dV k1 (es.length : Int)) bl.1 bl.2
            have f3 := fun k' => fin x k' (he x hm)
            clear fin f0 f1 f2 f4 d4 d3 tx he hl b6 e0 e1 e2 bl hm
            generalize dV k1 (es.length : Int) = VL at *
            walk_at "evd"
            first | done | exact f3 _
          · by_cases e4 : V6 = 3
            · have e5 : es.length = 0 := by
                cases h : es.length with
                | zero => rfl
                | succ n => exact absurd ⟨e4, by omega⟩ e3
              have e6 : ¬ 0 < es.length := by omega
              subst e4
              clear fin f0 f1 f2 d4 d3 he hl b6 e0 e1 e2 e3 e5
              walk_at "evd"
              first | done | exact f4 _
            · clear fin f0 f1 f2 d4 d3 he hl b6 e3
              walk_at "evd"
              first | done | exact f4 _
  obtain ⟨o, os, h, d, k', rfl, rfl, g⟩ := H.get
  exact ⟨d, k', h, g⟩
theorem putKs_nd {ks : List L2.Key} (h : ks.Nodup) (k : L2.Key) : (putKs ks k).Nodup := by
  unfold putKs
  by_cases e : hasK ks k = true
  · rw [if_pos e]; exact h
  · rw [if_neg e, List.nodup_append]
    refine ⟨h, by simp, fun a ha b hb e2 => e ?_⟩
    have : b = k := by simpa using hb
    unfold hasK
    rw [List.any_eq_true]
    exact ⟨a, ha, by simp [e2, this]⟩
theorem putKs_in (ks : List L2.Key) (k : L2.Key) : k ∈ putKs ks k ∧ ∀ j ∈ ks, j ∈ putKs ks k := by
  unfold putKs
  by_cases e : hasK ks k = true
  · rw [if_pos e]
    refine ⟨?_, fun j h => h⟩
    unfold hasK at e
    rw [List.any_eq_true] at e
    obtain ⟨a, ha, h⟩ := e
    have : a = k := by simpa using h
    rw [← this]; exact ha
  · rw [if_neg e]; exact ⟨by simp, fun j h => List.mem_append_left _ h⟩
theorem replX_ok : ∀ {ks : List L2.Key} {xs : List D} {k : L2.Key} {x : D}, ks.length = xs.length → (replX ks xs k x).length = xs.length ∧ ∀ d ∈ replX ks xs k x, d ∈ xs ∨ d = x
  | [], [], _, _, _ => ⟨rfl, fun d h => .inl h⟩
  | [], _ :: _, _, _, h => by cases h
  | _ :: _, [], _, _, h => by cases h
  | k' :: ks, d :: xs, k, x, h => by
    obtain ⟨a, b⟩ := replX_ok (ks := ks) (xs := xs) (k := k) (x := x) (by simpa using h)
    have e : replX (k' :: ks) (d :: xs) k x = (if k' = k then x else d) :: replX ks xs k x := rfl
    rw [e]
    refine ⟨by rw [List.length_cons, List.length_cons, a], fun y hy => ?_⟩
    rcases List.mem_cons.mp hy with z | hy
    · by_cases q : k' = k
      · rw [if_pos q] at z; exact .inr z
      · rw [if_neg q] at z; rw [z]; exact .inl (.head _)
    · exact (b y hy).imp (.tail _) id
theorem putXs_ok {ks : List L2.Key} {xs : List D} {k : L2.Key} {x : D} (h : ks.length = xs.length) : (putKs ks k).length = (putXs ks xs k x).length ∧ ∀ d ∈ putXs ks xs k x, d ∈ xs ∨ d = x := by
  unfold putKs putXs
  by_cases e : hasK ks k = true
  · rw [if_pos e, if_pos e]
    obtain ⟨a, b⟩ := replX_ok (k := k) (x := x) h
    exact ⟨by rw [a, h], b⟩
  · rw [if_neg e, if_neg e]
    exact ⟨by rw [List.length_append, List.length_append, h]; rfl, fun d hd => (List.mem_append.mp hd).imp id fun z => List.mem_singleton.mp z⟩
theorem putKs_len (ks : List L2.Key) (k : L2.Key) : (putKs ks k).length ≤ ks.length + 1 := by
  unfold putKs
  by_cases e : hasK ks k = true
  · rw [if_pos e]; omega
  · rw [if_neg e, List.length_append]; exact Nat.le_refl _
theorem getK_in : ∀ {ks : List L2.Key} {xs : List D} {k : L2.Key}, ks.length = xs.length → k ∈ ks → ∃ d ∈ xs, getK ks xs k = some d
  | [], _, _, _, h => by cases h
  | _ :: _, [], _, h, _ => by cases h
  | k' :: ks, d :: xs, k, h, hk => by
    have e : getK (k' :: ks) (d :: xs) k = if k' = k then some d else getK ks xs k := rfl
    rw [e]
    by_cases q : k' = k
    · rw [if_pos q]; exact ⟨d, .head _, rfl⟩
    · rw [if_neg q]
      obtain ⟨y, hy, g⟩ := getK_in (ks := ks) (xs := xs) (k := k) (by simpa using h) (by rcases List.mem_cons.mp hk with z | z; exact absurd z.symm q; exact z)
      exact ⟨y, .tail _ hy, g⟩
structure Mg (nms : List Str) (ks : List L2.Key) (xs : List D) : Prop where
  nd : ks.Nodup
  ln : ks.length = xs.length
  sm : ks.length ≤ nms.length
  hv : ∀ d ∈ xs, H23 d
  kn : ∀ n ∈ nms, Sum.inr n ∈ ks
def mK (ks : List L2.Key) (xs : List D) (n : Str) : D := (getK ks xs (.inr n)).getD .non
theorem Mg.mo {nms : List Str} {ks : List L2.Key} {xs : List D} (h : Mg nms ks xs) : MO23 nms ks xs (mK ks xs) := by
  refine ⟨fun n hn => ?_, fun n hn => ?_⟩
  · obtain ⟨d, _, g⟩ := getK_in h.ln (h.kn n hn)
    unfold mK; rw [g]; rfl
  · obtain ⟨d, hd, g⟩ := getK_in h.ln (h.kn n hn)
    unfold mK; rw [g]; exact h.hv d hd
theorem Mg.same {nms : List Str} {ks : List L2.Key} {xs : List D} (h : Mg nms ks xs) : gNeK [.dct ks xs, .dct ks xs] = some (bO false) := by
  show (if decide (ks = ks) && (decide ks.Nodup && (xs.zip xs).all (fun p => Dn.shp p.1 && (Dn.shp p.2 && D.eqv p.1 p.2))) then some (bO false) else none) = _
  rw [if_pos]
  rw [decide_eq_true rfl, decide_eq_true h.nd, Bool.true_and, Bool.true_and, List.all_eq_true]
  intro p hp
  have e : p.1 = p.2 := by
    have : ∀ xs : List D, p ∈ xs.zip xs → p.1 = p.2 := fun xs => by
      induction xs with
      | nil => intro h; cases h
      | cons x xs ih =>
        intro h
        rw [List.zip_cons_cons] at h
        rcases List.mem_cons.mp h with e | h
        · rw [e]
        · exact ih h
    exact this xs hp
  have hv := h.hv p.1 (List.of_mem_zip hp).1
  rw [← e, hv.sh, (D.eqv_same hv.shp.2 hv.shp.2).mpr rfl]; rfl
theorem meaning_ex (k : Dk) (nms : List Str) (hl : nms.length ≤ 100) (N : O) (hN : N = .lst (nms.map .str) ∨ N = .fr (.lst (nms.map .str))) : ∃ ks xs k', F__law_meaning [dk k, N] = some (.ok (.dct ks xs) [dk k', .fr (.lst (nms.map .str))]) ∧ Mg nms ks xs := by
  have H : FEv (F__law_meaning [dk k, N]) (@hq _ _ ⟨fun o os => ∃ ks xs k', o = .dct ks xs ∧ os = [dk k', .fr (.lst (nms.map .str))] ∧ Mg nms ks xs⟩) (fun _ _ => False) := by
    have lp : Ev (forL (.n 4) B__law_meaning_0 (nms.map .str) [some (dk k), some (.fr (.lst (nms.map .str))), some (.dct [] []), some (.lst []), none, none])
        (@Dn.hq _ _ ⟨fun fl e => fl = .next ∧ ∃ (k' : Dk) (ks : List L2.Key) (xs es : List D) (q4 q5 : Option O), Mg nms ks xs ∧ e = [some (dk k'), some (.fr (.lst (nms.map .str))), some (.dct ks xs), some (.lst es), q4, q5]⟩) (fun _ _ => False) := by
      refine Ev_forP (α := Str) (f := D.str) (tg := .n 4) (body := B__law_meaning_0) (X := fun _ _ => False)
        (fun done e => @Dn.hb _ ⟨fun e => ∃ (k' : Dk) (ks : List L2.Key) (xs es : List D) (q4 q5 : Option O), Mg done ks xs ∧ (∀ d ∈ es, H23 d) ∧ es.length ≤ done.length ∧ e = [some (dk k'), some (.fr (.lst (nms.map .str))), some (.dct ks xs), some (.lst es), q4, q5]⟩ e) _ nms [] _
        (hbi ⟨k, [], [], [], none, none, ⟨List.nodup_nil, rfl, Nat.le_refl _, fun d h => (List.not_mem_nil h).elim, fun n h => (List.not_mem_nil h).elim⟩, fun d h => (List.not_mem_nil h).elim, Nat.le_refl _, rfl⟩) ?_ ?_
      · rintro pre x post e he ⟨k', ks, xs, es, q4, q5, mg, hes, hel, rfl⟩
        rw [List.nil_append] at he
        refine ⟨_, rfl, ?_⟩
        have pl : pre.length + 1 ≤ nms.length := by rw [he]; simp
        obtain ⟨d, k2, hv, vd⟩ := val_ex k' es hes (by omega)
        have sl : es.length < sizeLine := by rw [sizeLine_eq]; omega
        have kl : ks.length < sizeLine := by rw [sizeLine_eq]; have := mg.sm; omega
        obtain ⟨p1, p2⟩ := putXs_ok (k := .inr x) (x := d) mg.ln
        have p3 := putKs_in ks (.inr x)
        have mg2 : Mg (pre ++ [x]) (putKs ks (.inr x)) (putXs ks xs (.inr x) d) := ⟨putKs_nd mg.nd _, p1, by rw [List.length_append]; have := putKs_len ks (.inr x); have := mg.sm; simp; omega, fun y hy => by
          rcases p2 y hy with h | h
          · exact mg.hv y h
          · rw [h]; exact vd, fun n hn => by
          rcases List.mem_append.mp hn with h | h
          · exact p3.2 _ (mg.kn n h)
          · rw [List.mem_singleton.mp h]; exact p3.1⟩
        have fin : ∀ q4 q5, @Dn.hb Sl ⟨fun e => ∃ (k' : Dk) (ks : List L2.Key) (xs es : List D) (q4 q5 : Option O), Mg (pre ++ [x]) ks xs ∧ (∀ d ∈ es, H23 d) ∧ es.length ≤ (pre ++ [x]).length ∧ e = [some (dk k'), some (.fr (.lst (nms.map .str))), some (.dct ks xs), some (.lst es), q4, q5]⟩
            [some (dk k2), some (.fr (.lst (nms.map .str))), some (.dct (putKs ks (.inr x)) (putXs ks xs (.inr x) d)), some (.lst (es ++ [d])), q4, q5] := fun q4 q5 => hbi ⟨k2, _, _, _, q4, q5, mg2, fun y hy => by
              rcases List.mem_append.mp hy with h | h
              · exact hes y h
              · rw [List.mem_singleton.mp h]; exact vd, by rw [List.length_append, List.length_append]; simp; exact hel, rfl⟩
        have kd : keyD (.str x) = some (.inr x) := rfl
        clear he mg hes hel pl p1 p2 p3 mg2 vd
        generalize nms.map D.str = NM at *
        unfold B__law_meaning_0
        walk_at "evd"
        first | done | exact fin _ _
      · rintro e ⟨k', ks, xs, es, q4, q5, mg, hes, hel, rfl⟩
        exact hqi ⟨rfl, k', ks, xs, es, q4, q5, mg, rfl⟩
    have fin : ∀ ks xs k', Mg nms ks xs → @hq O (List O) ⟨fun o os => ∃ ks xs k', o = .dct ks xs ∧ os = [dk k', .fr (.lst (nms.map .str))] ∧ Mg nms ks xs⟩ (.dct ks xs) [dk k', .fr (.lst (nms.map .str))] := fun ks xs k' h => hqi ⟨ks, xs, k', rfl, rfl, h⟩
    unfold F__law_meaning G__law_meaning
    clear hl
    rcases hN with rfl | rfl
    all_goals
      generalize hNM : nms.map D.str = NM at *
      walk_at "evd"
      refine Ev.mono lp ?_ (fun _ _ (h : False) => h.elim)
      rintro fl e ⟨rfl, k', ks, xs, es, q4, q5, mg, rfl⟩
      have fin := fin ks xs k' mg
      clear lp mg
      walk_at "evd"
      first | done | exact fin
  obtain ⟨o, os, h, ks, xs, k', rfl, rfl, g⟩ := H.get
  exact ⟨ks, xs, k', h, g⟩
/-! a normal form says the same -/
section
variable {m : Str → D}
theorem ev_nd (w : Bool) (cs : List Cn) : (Cn.nd w cs).ev m = !w ↔ ∃ x ∈ cs, x.ev m = !w := by
  cases w with
  | true =>
    rw [Cn.ev, if_pos rfl]
    induction cs with
    | nil => rw [Cn.evA]; simp
    | cons c cs ih =>
      rw [Cn.evA]
      cases h : c.ev m with
      | true => simp [h] at ih ⊢; exact ih
      | false => simp [h]
  | false =>
    rw [Cn.ev, if_neg (by decide)]
    induction cs with
    | nil => rw [Cn.evO]; simp
    | cons c cs ih =>
      rw [Cn.evO]
      cases h : c.ev m with
      | true => simp [h]
      | false => simp [h] at ih ⊢; exact ih
theorem ev_pc (w : Bool) (f : Cn) : (∃ x ∈ pc w f, x.ev m = !w) ↔ f.ev m = !w := by
  by_cases h : ∃ cs, f = .nd w cs
  · obtain ⟨cs, rfl⟩ := h
    have e : pc w (.nd w cs) = cs := by show (if w = w then cs else [.nd w cs]) = cs; rw [if_pos rfl]
    rw [e, ev_nd]
  · have e : pc w f = [f] := pc_one fun cs e => h ⟨cs, e⟩
    rw [e]; simp
theorem ev_at (b : Bool) : (Cn.at0 b).ev m = b := by rw [Cn.ev]
theorem ev_jnL (w : Bool) (L : List Cn) : (jnL w L).ev m = !w ↔ ∃ x ∈ L, x.ev m = !w := by
  match L with
  | [] => show (Cn.at0 w).ev m = !w ↔ _; rw [ev_at]; cases w <;> simp
  | [x] => show x.ev m = !w ↔ _; simp
  | x :: y :: r => exact ev_nd w (x :: y :: r)
theorem ev_jn (w : Bool) (raw : List Cn) : (jn w raw).ev m = !w ↔ ∃ x ∈ raw, x.ev m = !w := by
  unfold jn
  by_cases h : Cn.at0 (!w) ∈ raw
  · rw [if_pos h]
    exact ⟨fun _ => ⟨_, h, ev_at _⟩, fun _ => ev_at _⟩
  · rw [if_neg h, ev_jnL]
    constructor
    · rintro ⟨x, hx, e⟩
      have h1 := (fl_mem.mp hx).1
      have h2 := (ddA_mem [] raw).mp h1
      exact ⟨x, h2.resolve_left (List.not_mem_nil), e⟩
    · rintro ⟨x, hx, e⟩
      refine ⟨x, fl_mem.mpr ⟨(ddA_mem [] raw).mpr (.inr hx), fun z => ?_⟩, e⟩
      rw [z, ev_at] at e
      cases w <;> cases e
theorem ev_ntF (f : Cn) : (ntF f).ev m = !f.ev m := by
  rcases ntF_cases f with ⟨b, rfl, e⟩ | ⟨d, rfl, e⟩ | ⟨_, _, e⟩ <;> rw [e]
  · rw [ev_at, ev_at]
  · have : (Cn.nt d).ev m = !d.ev m := by rw [Cn.ev]
    rw [this, Bool.not_not]
  · rw [Cn.ev]
theorem bool_iff {a b w : Bool} (h : a = !w ↔ b = !w) : a = b := by
  cases a <;> cases b <;> cases w <;> simp at h ⊢
mutual
theorem ev_nrm : ∀ c : Cn, c.nrm.ev m = c.ev m
  | .nt c => by
    rw [Cn.nrm, ev_ntF, ev_nrm c]
    rw [Cn.ev]
  | .nd w cs => by
    rw [Cn.nrm]
    refine bool_iff (w := w) ?_
    rw [ev_jn, ev_nd, ev_raws w cs]
  | .at0 w => by rw [Cn.nrm]
  | .mat a p => by rw [Cn.nrm]
  | .sam a b => by rw [Cn.nrm]
  | .emp a => by rw [Cn.nrm]
theorem ev_raws (w : Bool) : ∀ cs : List Cn, (∃ x ∈ Cn.raws w cs, x.ev m = !w) ↔ ∃ x ∈ cs, x.ev m = !w
  | [] => by rw [Cn.raws]
  | c :: cs => by
    have i1 := ev_nrm c
    have i2 := ev_raws w cs
    rw [Cn.raws]
    constructor
    · rintro ⟨x, hx, e⟩
      rcases List.mem_append.mp hx with hx | hx
      · exact ⟨c, .head _, by rw [← i1]; exact (ev_pc w _).mp ⟨x, hx, e⟩⟩
      · obtain ⟨y, hy, e⟩ := i2.mp ⟨x, hx, e⟩
        exact ⟨y, .tail _ hy, e⟩
    · rintro ⟨x, hx, e⟩
      rcases List.mem_cons.mp hx with z | hx
      · rw [z, ← i1] at e
        obtain ⟨y, hy, e⟩ := (ev_pc w _).mpr e
        exact ⟨y, List.mem_append_left _ hy, e⟩
      · obtain ⟨y, hy, e⟩ := i2.mpr ⟨x, hx, e⟩
        exact ⟨y, List.mem_append_right _ hy, e⟩
end
end
/-! a condition's nodes -/
mutual
def Cn.nodes : Cn → List Cn
  | .nt c => .nt c :: Cn.nodes c
  | .nd w cs => .nd w cs :: Cn.nodess cs
  | .at0 w => [.at0 w]
  | .mat a p => [.mat a p]
  | .sam a b => [.sam a b]
  | .emp a => [.emp a]
def Cn.nodess : List Cn → List Cn
  | [] => []
  | c :: cs => Cn.nodes c ++ Cn.nodess cs
end
theorem Cn.nodess_app : ∀ a b : List Cn, Cn.nodess (a ++ b) = Cn.nodess a ++ Cn.nodess b
  | [], b => by rw [List.nil_append, Cn.nodess, List.nil_append]
  | x :: a, b => by rw [List.cons_append, Cn.nodess, Cn.nodess, Cn.nodess_app a b, List.append_assoc]
mutual
theorem nodes_len : ∀ c : Cn, c.nodes.length = c.size
  | .at0 _ => by simp [Cn.nodes, Cn.size]
  | .mat _ p => by simp [Cn.nodes, Cn.size]
  | .sam _ _ => by simp [Cn.nodes, Cn.size]
  | .emp _ => by simp [Cn.nodes, Cn.size]
  | .nt c => by have := nodes_len c; simp [Cn.nodes, Cn.size]; omega
  | .nd _ cs => by have := nodess_len cs; simp [Cn.nodes, Cn.size]; omega
theorem nodess_len : ∀ cs : List Cn, (Cn.nodess cs).length = Cn.sizes cs
  | [] => by simp [Cn.nodess, Cn.sizes]
  | c :: cs => by have := nodes_len c; have := nodess_len cs; simp [Cn.nodess, Cn.sizes]; omega
end
/-- a leaf that is neither always nor never -/
def Leaf : Cn → Prop
  | .mat _ _ => True
  | .sam _ _ => True
  | .emp _ => True
  | _ => False
/-- such leaves of a normal form are the condition's own -/
theorem leaf_pc {w : Bool} {f x : Cn} (hx : Leaf x) : x ∈ Cn.nodess (pc w f) ↔ x ∈ f.nodes := by
  by_cases h : ∃ cs, f = .nd w cs
  · obtain ⟨cs, rfl⟩ := h
    have e : pc w (.nd w cs) = cs := by show (if w = w then cs else [.nd w cs]) = cs; rw [if_pos rfl]
    rw [e, Cn.nodes]
    constructor
    · exact fun h => .tail _ h
    · intro h
      rcases List.mem_cons.mp h with z | h
      · rw [z] at hx; exact hx.elim
      · exact h
  · have e : pc w f = [f] := pc_one fun cs e => h ⟨cs, e⟩
    rw [e, Cn.nodess, Cn.nodess, List.append_nil]
theorem nodess_mem {x : Cn} : ∀ {cs : List Cn}, x ∈ Cn.nodess cs ↔ ∃ c ∈ cs, x ∈ c.nodes
  | [] => by rw [Cn.nodess]; simp
  | c :: cs => by
    rw [Cn.nodess, List.mem_append, nodess_mem (cs := cs)]
    simp
theorem leaf_jnL {w : Bool} {L : List Cn} {x : Cn} (hx : Leaf x) (h : x ∈ (jnL w L).nodes) : x ∈ Cn.nodess L := by
  match L, h with
  | [], h =>
    have h : x ∈ (Cn.at0 w).nodes := h
    rw [Cn.nodes, List.mem_singleton] at h
    rw [h] at hx; exact hx.elim
  | [y], h =>
    have h : x ∈ y.nodes := h
    rw [Cn.nodess, Cn.nodess, List.append_nil]; exact h
  | y :: z :: r, h =>
    have h : x ∈ (Cn.nd w (y :: z :: r)).nodes := h
    rw [Cn.nodes] at h
    rcases List.mem_cons.mp h with e | h
    · rw [e] at hx; exact hx.elim
    · exact h
theorem leaf_jn {w : Bool} {raw : List Cn} {x : Cn} (hx : Leaf x) (h : x ∈ (jn w raw).nodes) : x ∈ Cn.nodess raw := by
  unfold jn at h
  by_cases q : Cn.at0 (!w) ∈ raw
  · rw [if_pos q, Cn.nodes, List.mem_singleton] at h
    rw [h] at hx; exact hx.elim
  · rw [if_neg q] at h
    obtain ⟨c, hc, hn⟩ := nodess_mem.mp (leaf_jnL hx h)
    have h1 := (fl_mem.mp hc).1
    have h2 := ((ddA_mem [] raw).mp h1).resolve_left List.not_mem_nil
    exact nodess_mem.mpr ⟨c, h2, hn⟩
theorem leaf_ntF {f x : Cn} (hx : Leaf x) (h : x ∈ (ntF f).nodes) : x ∈ f.nodes := by
  rcases ntF_cases f with ⟨b, rfl, e⟩ | ⟨d, rfl, e⟩ | ⟨_, _, e⟩ <;> rw [e] at h
  · rw [Cn.nodes, List.mem_singleton] at h
    rw [h] at hx; exact hx.elim
  · rw [Cn.nodes]; exact .tail _ h
  · rw [Cn.nodes] at h
    rcases List.mem_cons.mp h with z | h
    · rw [z] at hx; exact hx.elim
    · exact h
mutual
theorem leaf_nrm {x : Cn} (hx : Leaf x) : ∀ c : Cn, x ∈ c.nrm.nodes → x ∈ c.nodes
  | .nt c => fun h => by
    rw [Cn.nrm] at h
    rw [Cn.nodes]
    exact .tail _ (leaf_nrm hx c (leaf_ntF hx h))
  | .nd w cs => fun h => by
    rw [Cn.nrm] at h
    rw [Cn.nodes]
    exact .tail _ (leaf_raws hx w cs (leaf_jn hx h))
  | .at0 w => fun h => by rw [Cn.nrm] at h; exact h
  | .mat a p => fun h => by rw [Cn.nrm] at h; exact h
  | .sam a b => fun h => by rw [Cn.nrm] at h; exact h
  | .emp a => fun h => by rw [Cn.nrm] at h; exact h
theorem leaf_raws {x : Cn} (hx : Leaf x) (w : Bool) : ∀ cs : List Cn, x ∈ Cn.nodess (Cn.raws w cs) → x ∈ Cn.nodess cs
  | [] => fun h => by rw [Cn.raws] at h; exact h
  | c :: cs => fun h => by
    rw [Cn.raws, Cn.nodess_app, List.mem_append] at h
    rw [Cn.nodess, List.mem_append]
    rcases h with h | h
    · exact .inl (leaf_nrm hx c ((leaf_pc hx).mp h))
    · exact .inr (leaf_raws hx w cs h)
end
/-! the law's walks over a condition -/
def Cn.sub : Cn → List Cn
  | .nt c => [c]
  | .nd _ cs => cs
  | _ => []
theorem nodes_sub (c : Cn) : c.nodes = c :: Cn.nodess c.sub := by
  cases c <;> simp [Cn.nodes, Cn.sub, Cn.nodess]
theorem w_in (c : Cn) : gIn [.str c.w, .lst [.str (PySem.Str.ofString "and"), .str (PySem.Str.ofString "or"), .str (PySem.Str.ofString "not")]] = some (bO (decide (c.w ∈ [sAnd, sOr, sNot]))) := str_in (z := c.w) (zs := [sAnd, sOr, sNot]) c.w_ok (by decide +kernel)
theorem in_cases (c : Cn) : (c.w ∈ [sAnd, sOr, sNot] ∧ c.tl = c.sub.map Cn.d) ∨ (c.w ∉ [sAnd, sOr, sNot] ∧ c.sub = [] ∧ ((∃ b, c = .at0 b) ∨ Leaf c)) := by
  cases c with
  | at0 b => exact .inr ⟨by show ¬ wAt b ∈ _; cases b <;> decide +kernel, rfl, .inl ⟨b, rfl⟩⟩
  | mat _ _ => exact .inr ⟨by show ¬ sMat ∈ _; decide +kernel, rfl, .inr trivial⟩
  | sam _ _ => exact .inr ⟨by show ¬ sSam ∈ _; decide +kernel, rfl, .inr trivial⟩
  | emp _ => exact .inr ⟨by show ¬ sEmp ∈ _; decide +kernel, rfl, .inr trivial⟩
  | nt c => exact .inl ⟨by show sNot ∈ _; decide +kernel, rfl⟩
  | nd w cs => exact .inl ⟨by show wNd w ∈ _; cases w <;> decide +kernel, by show Cn.ds cs = _; rw [Cn.ds_map]; rfl⟩
theorem sub_cok {N R : List Str} {d : Nat} {c : Cn} (h : COk N R (d + 1) c) : ∀ x ∈ c.sub, COk N R d x := fun x hx => by
  cases h with
  | nt _ c hc => rw [List.mem_singleton.mp hx]; exact hc
  | nd _ w cs hc => exact hc x hx
  | at0 _ _ => cases hx
  | mat _ _ _ _ _ => cases hx
  | sam _ _ _ _ _ => cases hx
  | emp _ _ _ => cases hx
theorem sub_sz (c : Cn) : 1 + Cn.sizes c.sub ≤ c.size + 0 := by
  cases c <;> simp [Cn.sub, Cn.sizes, Cn.size]
theorem sizes_of {x : Cn} : ∀ {cs : List Cn}, x ∈ cs → x.size ≤ Cn.sizes cs
  | c :: cs, h => by
    rw [Cn.sizes]
    rcases List.mem_cons.mp h with e | h
    · rw [e]; omega
    · have := sizes_of h; omega
theorem lnodes_ok {N R : List Str} : ∀ (n d : Nat) (c : Cn), COk N R d c → d ≤ n → c.size ≤ 900 → F__law_nodes n [.fr c.d] = some (.ok (.lst (c.nodes.map Cn.d)) [.fr c.d])
  | 0, d, c, h, hd, _ => by have := cok_pos h; omega
  | n + 1, d, c, h, hd, hsz => by
    have ih := lnodes_ok (N := N) (R := R) n
    have H : FEv (F__law_nodes (n + 1) [.fr c.d]) (@hq _ _ ⟨fun o os => o = .lst (c.nodes.map Cn.d) ∧ os = [.fr c.d]⟩) (fun _ _ => False) := by
      obtain ⟨d', rfl⟩ : ∃ e, d = e + 1 := ⟨d - 1, by have := cok_pos h; omega⟩
      have fin : @hq O (List O) ⟨fun o os => o = .lst (c.nodes.map Cn.d) ∧ os = [.fr c.d]⟩ (.lst (c.nodes.map Cn.d)) [.fr c.d] := hqi ⟨rfl, rfl⟩
      have hix := gIx0_cn c
      have hsl := sl1_cn c
      have hin := w_in c
      have ssz := sub_sz c
      rcases in_cases c with ⟨hw, ht⟩ | ⟨hw, hs, _⟩
      · rw [decide_eq_true hw] at hin
        rw [ht] at hsl
        have lp : Ev (forL (.n 2) (B__law_nodes_0 (F__law_nodes n)) (c.sub.map Cn.d) [some (.fr c.d), some (.lst [c.d]), none])
            (@Dn.hq _ _ ⟨fun fl e => fl = .next ∧ ∃ q2, e = [some (.fr c.d), some (.lst (c.nodes.map Cn.d)), q2]⟩) (fun _ _ => False) := by
          refine Ev_forP (α := Cn) (f := Cn.d) (tg := .n 2) (body := B__law_nodes_0 (F__law_nodes n)) (X := fun _ _ => False)
            (fun done e => @Dn.hb _ ⟨fun e => ∃ q2, e = [some (.fr c.d), some (.lst (c.d :: (Cn.nodess done).map Cn.d)), q2]⟩ e) _ c.sub [] _ (hbi ⟨none, by rw [Cn.nodess]; rfl⟩) ?_ ?_
          · rintro pre x post e he ⟨q2, rfl⟩
            rw [List.nil_append] at he
            refine ⟨_, rfl, ?_⟩
            have hx : x ∈ c.sub := by rw [he]; exact List.mem_append_right _ (.head _)
            have ix := ih d' x (sub_cok h x hx) (by omega) (by have := sizes_of hx; omega)
            have l1 : (Cn.nodess pre).length + x.nodes.length ≤ 900 := by
              rw [nodess_len, nodes_len]
              have : Cn.sizes c.sub = Cn.sizes pre + Cn.sizes (x :: post) := by rw [he, Cn.sizes_app]
              rw [Cn.sizes] at this
              omega
            have ga : gAdd [.lst (c.d :: (Cn.nodess pre).map Cn.d), .lst (x.nodes.map Cn.d)] = some (.lst (c.d :: (Cn.nodess (pre ++ [x])).map Cn.d)) := by
              rw [gAdd_l (by simp; rw [sizeLine_eq]; omega), Cn.nodess_app, Cn.nodess, Cn.nodess, List.append_nil, List.map_append]; rfl
            have fin2 : ∀ q2, @Dn.hb Sl ⟨fun e => ∃ q2, e = [some (.fr c.d), some (.lst (c.d :: (Cn.nodess (pre ++ [x])).map Cn.d)), q2]⟩ [some (.fr c.d), some (.lst (c.d :: (Cn.nodess (pre ++ [x])).map Cn.d)), q2] := fun q2 => hbi ⟨q2, rfl⟩
            clear he hx ih fin hin hix hsl ssz l1 h hsz hw ht
            generalize (c.d :: (Cn.nodess (pre ++ [x])).map Cn.d) = A2 at *
            generalize (c.d :: (Cn.nodess pre).map Cn.d) = A1 at *
            generalize x.nodes.map Cn.d = XN at *
            generalize x.d = XD at *
            generalize c.d = CD at *
            unfold B__law_nodes_0
            walk_at "evd"
            first | done | exact fin2 _
          · rintro e ⟨q2, rfl⟩
            exact hqi ⟨rfl, q2, by rw [List.nil_append, nodes_sub]; rfl⟩
        have out : ∀ (fl : Fl) (e : Sl) (P : Prop), (fl = .next ∧ ∃ q2, e = [some (.fr c.d), some (.lst (c.nodes.map Cn.d)), q2]) → (∀ q2, fl = .next → e = [some (.fr c.d), some (.lst (c.nodes.map Cn.d)), q2] → P) → P := fun fl e P ⟨h1, q2, h2⟩ h => h q2 h1 h2
        unfold F__law_nodes G__law_nodes
        clear ih ssz h hsz hw ht
        generalize c.nodes.map Cn.d = NN at *
        generalize c.sub.map Cn.d = SS at *
        generalize c.d = CD at *
        walk_at "evd"
        refine Ev.mono lp ?_ (fun _ _ (h : False) => h.elim)
        intro fl e zz
        refine out fl e _ zz fun q2 h1 h2 => ?_
        subst h1 h2
        clear lp out zz
        walk_at "evd"
        first | done | exact fin
      · rw [decide_eq_false hw] at hin
        have en : c.nodes.map Cn.d = [c.d] := by rw [nodes_sub, hs, Cn.nodess]; rfl
        rw [en] at fin ⊢
        unfold F__law_nodes G__law_nodes
        clear ih ssz h hsz hw hs en
        generalize c.d = CD at *
        walk_at "evd"
        first | done | exact fin
    obtain ⟨o, os, hh', rfl, rfl⟩ := H.get
    exact hh'
/-! the form is a condition over the nodes -/
open Classical in
theorem iscond_ok {N R : List Str} (hN : ∀ z ∈ N, LtrZ z) (hR : ∀ z ∈ R, LtrZ z) (L : List Cn) (hL : ∀ y ∈ L, Fine y) : ∀ (n d dp : Nat) (f : Cn), COk N R d f → d ≤ n → d ≤ dp → d ≤ 6 → (∀ x, Leaf x → x ∈ f.nodes → x ∈ L) →
    F__law_is_condition n [.fr f.d, .lst (L.map Cn.d), .fr (.int (dp : Int))] = some (.ok (bO true) [.fr f.d, .lst (L.map Cn.d), .fr (.int (dp : Int))])
  | 0, d, dp, f, h, hd, _, _, _ => by have := cok_pos h; omega
  | n + 1, d, dp, f, h, hd, hdp, h6, hl => by
    have ih := iscond_ok hN hR L hL n
    obtain ⟨d', rfl⟩ : ∃ e, d = e + 1 := ⟨d - 1, by have := cok_pos h; omega⟩
    have H : FEv (F__law_is_condition (n + 1) [.fr f.d, .lst (L.map Cn.d), .fr (.int (dp : Int))]) (@hq _ _ ⟨fun o os => o = bO true ∧ os = [.fr f.d, .lst (L.map Cn.d), .fr (.int (dp : Int))]⟩) (fun _ _ => False) := by
      have fin : @hq O (List O) ⟨fun o os => o = bO true ∧ os = [.fr f.d, .lst (L.map Cn.d), .fr (.int (dp : Int))]⟩ (bO true) [.fr f.d, .lst (L.map Cn.d), .fr (.int (dp : Int))] := hqi ⟨rfl, rfl⟩
      have dp0 : ¬ (dp : Int) = 0 := by omega
      have hin := w_in f
      have fine := cok_fine hN hR h (by omega)
      have fin_in := in_cn (x := f) (ys := L) fine hL
      have hde := f.d_e
      obtain ⟨a1, a2, a3, a4, b1, b2, b3, c1, c2, c3, c4⟩ := hw23
      obtain ⟨d1, d2, d3, d4, d5, d6⟩ := hw23c
      rcases in_cases f with ⟨hw, ht⟩ | ⟨hw, hs, hlf⟩
      · rw [decide_eq_true hw] at hin
        have nA : ¬ f.w = PySem.Str.ofString "always" := fun e => by rw [e] at hw; exact absurd hw (by decide +kernel)
        have nN : ¬ f.w = PySem.Str.ofString "never" := fun e => by rw [e] at hw; exact absurd hw (by decide +kernel)
        have n2 : f.w = PySem.Str.ofString "not" → f.tl.length = 1 := fun e => by
          obtain ⟨x, rfl⟩ := Cn.w_nt e
          rfl
        have ct := cut1_c3 (.str f.w) f.tl
        have lp : Ev (forL (.n 3) (B__law_is_condition_0 (F__law_is_condition n)) (f.sub.map Cn.d) [some (.fr f.d), some (.lst (L.map Cn.d)), some (.fr (.int (dp : Int))), none])
            (@Dn.hq _ _ ⟨fun fl e => fl = .next ∧ ∃ q3, e = [some (.fr f.d), some (.lst (L.map Cn.d)), some (.fr (.int (dp : Int))), q3]⟩) (fun _ _ => False) := by
          refine Ev_forP (α := Cn) (f := Cn.d) (tg := .n 3) (body := B__law_is_condition_0 (F__law_is_condition n)) (X := fun _ _ => False)
            (fun done e => @Dn.hb _ ⟨fun e => ∃ q3, e = [some (.fr f.d), some (.lst (L.map Cn.d)), some (.fr (.int (dp : Int))), q3]⟩ e) _ f.sub [] _ (hbi ⟨none, rfl⟩) ?_ ?_
          · rintro pre x post e he ⟨q3, rfl⟩
            rw [List.nil_append] at he
            refine ⟨_, rfl, ?_⟩
            have hx : x ∈ f.sub := by rw [he]; exact List.mem_append_right _ (.head _)
            have ix := ih d' (dp - 1) x (sub_cok h x hx) (by omega) (by omega) (by omega) fun y hy hm => hl y hy (by rw [nodes_sub]; exact .tail _ (nodess_mem.mpr ⟨x, hx, hm⟩))
            rw [show ((dp - 1 : Nat) : Int) = (dp : Int) - 1 by omega] at ix
            have fin2 : ∀ q3, @Dn.hb Sl ⟨fun e => ∃ q3, e = [some (.fr f.d), some (.lst (L.map Cn.d)), some (.fr (.int (dp : Int))), q3]⟩ [some (.fr f.d), some (.lst (L.map Cn.d)), some (.fr (.int (dp : Int))), q3] := fun q3 => hbi ⟨q3, rfl⟩
            clear he hx ih fin hin h hd hdp h6 hl hw ht nA nN n2 ct fine fin_in hde dp0
            generalize L.map Cn.d = LL at *
            generalize x.d = XD at *
            generalize f.d = FD at *
            generalize (dp : Int) = DP at *
            unfold B__law_is_condition_0
            walk_at "evd"
            first | done | exact fin2 _
          · rintro e ⟨q3, rfl⟩
            exact hqi ⟨rfl, q3, rfl⟩
        have out : ∀ (fl : Fl) (e : Sl) (P : Prop), (fl = .next ∧ ∃ q3, e = [some (.fr f.d), some (.lst (L.map Cn.d)), some (.fr (.int (dp : Int))), q3]) → (∀ q3, fl = .next → e = [some (.fr f.d), some (.lst (L.map Cn.d)), some (.fr (.int (dp : Int))), q3] → P) → P := fun fl e P ⟨h1, q3, h2⟩ h => h q3 h1 h2
        rw [← ht] at lp
        rw [hde] at lp out fin ⊢
        unfold F__law_is_condition G__law_is_condition
        clear ih h hd hdp h6 hl hw ht fine fin_in hde hL
        generalize L.map Cn.d = LL at *
        generalize (dp : Int) = DP at *
        by_cases hn : f.w = PySem.Str.ofString "not"
        · have n2 := n2 hn
          generalize f.tl = TL at *
          obtain ⟨t0, rfl⟩ : ∃ t, TL = [t] := by
            match TL, n2 with
            | [t], _ => exact ⟨t, rfl⟩
          rw [hn] at hin lp out fin ct ⊢
          clear n2 nA nN hn
          walk_at "evd"
          refine Ev.mono lp ?_ (fun _ _ (h : False) => h.elim)
          intro fl e zz
          refine out fl e _ zz fun q3 h1 h2 => ?_
          subst h1 h2
          clear lp out zz
          walk_at "evd"
          first | done | exact fin
        · clear n2
          have l0 : ¬ (f.tl.length : Int) + 1 = 0 := by omega
          generalize f.tl = TL at *
          generalize f.w = FW at *
          walk_at "evd"
          refine Ev.mono lp ?_ (fun _ _ (h : False) => h.elim)
          intro fl e zz
          refine out fl e _ zz fun q3 h1 h2 => ?_
          subst h1 h2
          clear lp out zz
          walk_at "evd"
          first | done | exact fin
      · rw [decide_eq_false hw] at hin
        rcases hlf with ⟨b, rfl⟩ | hlf
        · have ed : (Cn.at0 b).d = .tup [.str (wAt b)] := by rw [Cn.d]
          have ew : (Cn.at0 b).w = wAt b := rfl
          rw [ew] at hin
          rw [ed] at fin ⊢
          unfold F__law_is_condition G__law_is_condition
          clear ih h hd hdp h6 hl hw hs fine fin_in hde hL ed ew
          generalize L.map Cn.d = LL at *
          generalize (dp : Int) = DP at *
          cases b with
          | true =>
            have e : wAt true = PySem.Str.ofString "always" := rfl
            rw [e] at *
            clear e
            walk_at "evd"
            first | done | exact fin
          | false =>
            have e : wAt false = PySem.Str.ofString "never" := rfl
            rw [e] at *
            clear e
            walk_at "evd"
            first | done | exact fin
        · have hm : f ∈ L := hl f hlf (by rw [nodes_sub]; exact .head _)
          rw [decide_eq_true hm] at fin_in
          have nw : ¬ f.w = PySem.Str.ofString "always" ∧ ¬ f.w = PySem.Str.ofString "never" ∧ ¬ f.w = PySem.Str.ofString "not" := by
            cases f with
            | mat _ _ => exact ⟨(hw23b sMat (by simp)).1, (hw23b sMat (by simp)).2.1, (hw23b sMat (by simp)).2.2.1⟩
            | sam _ _ => exact ⟨(hw23b sSam (by simp)).1, (hw23b sSam (by simp)).2.1, (hw23b sSam (by simp)).2.2.1⟩
            | emp _ => exact ⟨(hw23b sEmp (by simp)).1, (hw23b sEmp (by simp)).2.1, (hw23b sEmp (by simp)).2.2.1⟩
            | at0 _ => exact hlf.elim
            | nt _ => exact hlf.elim
            | nd _ _ => exact hlf.elim
          obtain ⟨n1, n2, n3⟩ := nw
          have l0 : ¬ (f.tl.length : Int) + 1 = 0 := by omega
          rw [hde] at fin fin_in ⊢
          unfold F__law_is_condition G__law_is_condition
          clear ih h hd hdp h6 hl hw hs fine hde hL hlf hm
          generalize L.map Cn.d = LL at *
          generalize (dp : Int) = DP at *
          generalize f.tl = TL at *
          generalize f.w = FW at *
          walk_at "evd"
          first | done | exact fin
    obtain ⟨o, os, hh', rfl, rfl⟩ := H.get
    exact hh'
/-! the law -/
section
variable {nms regs : List Str} {c : Cn}
theorem law_body (ns : List Int) (hR : ∀ z ∈ regs, z ∈ nms) (hc : COk nms regs 6 c) (hs : c.size ≤ 20) (hl : nms.length ≤ 100) (k : Dk) (q1 q3 q6 q7 q8 : Option O) (N2 : O) (hN : N2 = .lst (nms.map .str) ∨ N2 = .fr (.lst (nms.map .str))) :
    Ev (B_law_0 [some (.fr (.scr ns)), some (dk k), some N2, q3, some (.fr c.d), some (.fr c.nrm.d), q6, q7, q8])
      (@Dn.hq _ _ ⟨fun fl e => fl = .next ∧ ∃ k' q7 q8, e = [some (.fr (.scr ns)), some (dk k'), some (.fr (.lst (nms.map .str))), q3, some (.fr c.d), some (.fr c.nrm.d), q6, q7, q8]⟩) (fun _ _ => False) := by
  obtain ⟨ks, xs, k', em, mg⟩ := meaning_ex k nms hl N2 hN
  have fin : ∀ q7 q8, @Dn.hq Fl Sl ⟨fun fl e => fl = .next ∧ ∃ k' q7 q8, e = [some (.fr (.scr ns)), some (dk k'), some (.fr (.lst (nms.map .str))), q3, some (.fr c.d), some (.fr c.nrm.d), q6, q7, q8]⟩ .next [some (.fr (.scr ns)), some (dk k'), some (.fr (.lst (nms.map .str))), q3, some (.fr c.d), some (.fr c.nrm.d), q6, q7, q8] := fun q7 q8 => hqi ⟨rfl, k', q7, q8, rfl⟩
  have sz := nrm_sz c
  have h1 := lholds23 (M := .dct ks xs) rfl mg.mo hR 40 6 c.nrm (by omega) (by omega) (nrm_cok c 6 hc)
  have h2 := lholds23 (M := .dct ks xs) rfl mg.mo hR 40 6 c (by omega) (by omega) hc
  rw [ev_nrm] at h1
  generalize c.ev (mK ks xs) = CV at *
  generalize c.d = CD at *
  generalize c.nrm.d = ND at *
  generalize nms.map D.str = NM at *
  clear hR hc hs mg hl sz hN
  unfold B_law_0
  cases CV
  all_goals
    walk_at "evd"
    first | done | exact fin _ _
end
theorem law_true : ∀ ns : List Int, ns.length ≤ 63 → ∃ os, F_law [.fr (.scr ns)] = some (.ok (bO true) os) := by
  intro ns _
  have H : FEv (F_law [.fr (.scr ns)]) (@Dn.hq _ _ ⟨fun o _ => o = bO true⟩) (fun _ _ => False) := by
    obtain ⟨k0, hd⟩ := deck_ok ns
    have d5 := draw_ok k0 5 (by omega) (by omega)
    have b5 := draw_bd k0 (b := 5) (by omega) (by omega)
    have sl : ∀ z ∈ [PySem.Str.ofString "self"], LtrZ z := by unfold LtrZ; decide +kernel
    obtain ⟨nms, k2, hn, nm, nl⟩ := dnames_ex (dN k0 5) (1 + dV k0 5) (by omega) (by omega) [PySem.Str.ofString "self"] sl
    have hn : F__law_names [dk (dN k0 5), .fr (.int (1 + dV k0 5)), .fr (.lst [.str (PySem.Str.ofString "self")])] = some (.ok (.lst (nms.map .str)) [dk k2, .fr (.int (1 + dV k0 5)), .fr (.lst [.str (PySem.Str.ofString "self")])]) := hn
    have d3 := draw_ok k2 3 (by omega) (by omega)
    have b3 := draw_bd k2 (b := 3) (by omega) (by omega)
    obtain ⟨V, hV⟩ : ∃ V : Nat, (V : Int) = dV k2 3 := ⟨(dV k2 3).toNat, by omega⟩
    have cu : cutD (nms.map D.str) none (some (dV k2 3)) = (nms.take V).map D.str := by rw [← hV, cutD_hi, List.map_take]
    obtain ⟨c, k4, hc, ck, cs⟩ := dcond_ex (.lst (nms.map .str)) (.lst ((nms.take V).map .str)) nms (nms.take V) rfl rfl (by omega) (by omega) (by rw [List.length_take]; omega) (dN k2 3) 6 (by omega) (by omega)
    have hc : F__law_condition [dk (dN k2 3), .lst (nms.map .str), .lst ((nms.take V).map .str), .fr (.int 6)] = some (.ok (.fr c.d) [dk k4, .lst (nms.map .str), .lst ((nms.take V).map .str), .fr (.int 6)]) := hc
    have tk : ∀ z ∈ nms.take V, z ∈ nms := fun z hz => List.mem_of_mem_take hz
    have lN : ∀ z ∈ nms, LtrZ z := fun z hz => (nm z hz).1
    have lR : ∀ z ∈ nms.take V, LtrZ z := fun z hz => lN z (tk z hz)
    have cn := nrm_cok c 6 ck
    have sz := nrm_sz c
    have no := normal_ok lN lR 6 c 40 ck (by omega) (by omega) (by omega)
    have n1 := lnodes_ok 40 6 c ck (by omega) (by omega)
    have n2 := lnodes_ok 40 6 c.nrm cn (by omega) (by omega)
    have fine : ∀ y ∈ c.nodes, Fine y := by
      have : ∀ (n d : Nat) (c : Cn), COk nms (nms.take V) d c → d ≤ n → d ≤ 6 → ∀ y ∈ c.nodes, Fine y := fun n => by
        induction n with
        | zero => intro d c h hd _; have := cok_pos h; omega
        | succ n ih =>
          intro d c h hd h6 y hy
          obtain ⟨d', rfl⟩ : ∃ e, d = e + 1 := ⟨d - 1, by have := cok_pos h; omega⟩
          rw [nodes_sub] at hy
          rcases List.mem_cons.mp hy with e | hy
          · rw [e]; exact cok_fine lN lR h (by omega)
          · obtain ⟨x, hx, hm⟩ := nodess_mem.mp hy
            exact ih d' x (sub_cok h x hx) (by omega) (by omega) y hm
      exact this 6 6 c ck (by omega) (by omega)
    have ic := iscond_ok lN lR c.nodes fine 40 6 6 c.nrm cn (by omega) (by omega) (by omega) fun x hx h => leaf_nrm hx c h
    have ll : ¬ ((c.nrm.nodes.length : Int) > (c.nodes.length : Int)) := by rw [nodes_len, nodes_len]; omega
    have g1 : gLen [.lst (c.nodes.map Cn.d)] = some (iO (c.nodes.length : Int)) := by rw [gLen_l, List.length_map]
    have g2 : gLen [.lst (c.nrm.nodes.map Cn.d)] = some (iO (c.nrm.nodes.length : Int)) := by rw [gLen_l, List.length_map]
    have lp : ∀ q3 q6, Ev (forL (.n 7) B_law_0 (rngD 0 4) [some (.fr (.scr ns)), some (dk k4), some (.lst (nms.map .str)), q3, some (.fr c.d), some (.fr c.nrm.d), q6, none, none])
        (@Dn.hq _ _ ⟨fun fl e => fl = .next ∧ ∃ q1 q2 q7 q8, e = [some (.fr (.scr ns)), q1, q2, q3, some (.fr c.d), some (.fr c.nrm.d), q6, q7, q8]⟩) (fun _ _ => False) := fun q3 q6 => by
      have eR : rngD 0 4 = (List.range 4).map fun j : Nat => D.int (0 + (j : Int)) := rfl
      rw [eR]
      refine Ev_forP (α := Nat) (f := fun j : Nat => D.int (0 + (j : Int))) (tg := .n 7) (body := B_law_0) (X := fun _ _ => False)
        (fun done e => @Dn.hb _ ⟨fun e => ∃ (k : Dk) (N2 : O) (q7 q8 : Option O), (N2 = .lst (nms.map .str) ∨ N2 = .fr (.lst (nms.map .str))) ∧ e = [some (.fr (.scr ns)), some (dk k), some N2, q3, some (.fr c.d), some (.fr c.nrm.d), q6, q7, q8]⟩ e) _ (List.range 4) [] _
        (hbi ⟨k4, _, none, none, .inl rfl, rfl⟩) ?_ ?_
      · rintro pre x post e he ⟨k, N2, q7, q8, hN, rfl⟩
        refine ⟨_, rfl, ?_⟩
        refine Ev.mono (law_body ns tk ck cs (by omega) k none q3 q6 _ q8 N2 hN) ?_ (fun _ _ (h : False) => h.elim)
        rintro fl e ⟨rfl, k', q7, q8, rfl⟩
        exact hbi ⟨k', _, q7, q8, .inr rfl, rfl⟩
      · rintro e ⟨k, N2, q7, q8, hN, rfl⟩
        exact hqi ⟨rfl, _, _, q7, q8, rfl⟩
    have fin : ∀ os : List O, @Dn.hq O (List O) ⟨fun o _ => o = bO true⟩ (bO true) os := fun os => hqi rfl
    have r4 : inR 4 = true := by decide
    have ic : F__law_is_condition 40 [.fr c.nrm.d, .lst (c.nodes.map Cn.d), .fr (.int 6)] = some (.ok (bO true) [.fr c.nrm.d, .lst (c.nodes.map Cn.d), .fr (.int 6)]) := ic
    unfold F_law G_law
    clear b5 sl nm nl b3 hV ck cs tk lN lR cn sz fine
    generalize (c.nrm.nodes.length : Int) = L2 at *
    generalize (c.nodes.length : Int) = L1 at *
    generalize c.nrm.nodes.map Cn.d = M2 at *
    generalize c.nodes.map Cn.d = M1 at *
    generalize c.nrm.d = ND at *
    generalize c.d = CD at *
    generalize (nms.take V).map D.str = RG at *
    generalize nms.map D.str = NM at *
    generalize dV k0 5 = V5 at *
    generalize dV k2 3 = V3 at *
    walk_at "evd"
    refine Ev.mono (lp ..) ?_ (fun _ _ (h : False) => h.elim)
    rintro fl e ⟨rfl, q1, q2, q7, q8, rfl⟩
    clear lp
    walk_at "evd"
    first | done | exact fin _
  obtain ⟨o, os, h, rfl⟩ := H.get
  exact ⟨os, h⟩
theorem all_mk {l : PySem.W.OpenLaw} {w : World} {K : PySem.W.Frag} {h : Heap} {mg : Str → Option Value} {fa : Addr} (X : K.In h) (G : h.Ns mainGlobals mg) (hfa : mg "law" = some (.ref fa)) (c : obsL hd_fa hd_fx hd_fn hd_ts K = valL hd_fn hd_ts w)
    : ∃ fd : FuncData, (∀ (s : Shared) (v : Value), BindsTo s fd ⟨[v], []⟩ [("_law_script", v)]) ∧ ∀ base : Heap, K.In base → base.Ns mainGlobals mg → FnG l.prog w K mg base (L2.CX l.prog w) 46 fa fd [(PySem.Str.ofString "_law_script")] (spLaw K) := by
  obtain ⟨fd1, D1⟩ := sayD c 0 (d := hd__law_deck) rfl
  replace D1 : FunD K (PySem.Str.ofString "_law_deck") (PySem.Str.ofString "_law_deck") (defArgs s__law_deck) (defBody s__law_deck) (defScope s__law_deck) [] [] (He.ga K (PySem.Str.ofString "_law_deck")) fd1 := D1
  have F1 : Fun K (PySem.Str.ofString "_law_deck") (PySem.Str.ofString "_law_deck") s__law_deck (He.ga K (PySem.Str.ofString "_law_deck")) fd1 := He5.fun_of D1
  have k1 : PySem.W.keepIn K (.ref (He.ga K (PySem.Str.ofString "_law_deck"))) = true := D1.kp
  have a1 : mg (PySem.Str.ofString "_law_deck") = some (.ref (He.ga K (PySem.Str.ofString "_law_deck"))) := (He.glo_ok X G (sayA c 0 (f := .glo (PySem.Str.ofString "_law_deck")) rfl))
  obtain ⟨fd2, D2⟩ := sayD c 1 (d := hd__law_draw) rfl
  replace D2 : FunD K (PySem.Str.ofString "_law_draw") (PySem.Str.ofString "_law_draw") (defArgs s__law_draw) (defBody s__law_draw) (defScope s__law_draw) [] [] (He.ga K (PySem.Str.ofString "_law_draw")) fd2 := D2
  have F2 : Fun K (PySem.Str.ofString "_law_draw") (PySem.Str.ofString "_law_draw") s__law_draw (He.ga K (PySem.Str.ofString "_law_draw")) fd2 := He5.fun_of D2
  have k2 : PySem.W.keepIn K (.ref (He.ga K (PySem.Str.ofString "_law_draw"))) = true := D2.kp
  have a2 : mg (PySem.Str.ofString "_law_draw") = some (.ref (He.ga K (PySem.Str.ofString "_law_draw"))) := (He.glo_ok X G (sayA c 1 (f := .glo (PySem.Str.ofString "_law_draw")) rfl))
  obtain ⟨fd3, D3⟩ := sayD c 2 (d := hd__law_letter) rfl
  replace D3 : FunD K (PySem.Str.ofString "_law_letter") (PySem.Str.ofString "_law_letter") (defArgs s__law_letter) (defBody s__law_letter) (defScope s__law_letter) [] [] (He.ga K (PySem.Str.ofString "_law_letter")) fd3 := D3
  have F3 : Fun K (PySem.Str.ofString "_law_letter") (PySem.Str.ofString "_law_letter") s__law_letter (He.ga K (PySem.Str.ofString "_law_letter")) fd3 := He5.fun_of D3
  have k3 : PySem.W.keepIn K (.ref (He.ga K (PySem.Str.ofString "_law_letter"))) = true := D3.kp
  have a3 : mg (PySem.Str.ofString "_law_letter") = some (.ref (He.ga K (PySem.Str.ofString "_law_letter"))) := (He.glo_ok X G (sayA c 2 (f := .glo (PySem.Str.ofString "_law_letter")) rfl))
  obtain ⟨fd4, D4⟩ := sayD c 3 (d := hd__law_text) rfl
  replace D4 : FunD K (PySem.Str.ofString "_law_text") (PySem.Str.ofString "_law_text") (defArgs s__law_text) (defBody s__law_text) (defScope s__law_text) [] [] (He.ga K (PySem.Str.ofString "_law_text")) fd4 := D4
  have F4 : Fun K (PySem.Str.ofString "_law_text") (PySem.Str.ofString "_law_text") s__law_text (He.ga K (PySem.Str.ofString "_law_text")) fd4 := He5.fun_of D4
  have k4 : PySem.W.keepIn K (.ref (He.ga K (PySem.Str.ofString "_law_text"))) = true := D4.kp
  have a4 : mg (PySem.Str.ofString "_law_text") = some (.ref (He.ga K (PySem.Str.ofString "_law_text"))) := (He.glo_ok X G (sayA c 3 (f := .glo (PySem.Str.ofString "_law_text")) rfl))
  obtain ⟨fd5, D5⟩ := sayD c 4 (d := hd__law_names) rfl
  replace D5 : FunD K (PySem.Str.ofString "_law_names") (PySem.Str.ofString "_law_names") (defArgs s__law_names) (defBody s__law_names) (defScope s__law_names) [] [] (He.ga K (PySem.Str.ofString "_law_names")) fd5 := D5
  have F5 : Fun K (PySem.Str.ofString "_law_names") (PySem.Str.ofString "_law_names") s__law_names (He.ga K (PySem.Str.ofString "_law_names")) fd5 := He5.fun_of D5
  have k5 : PySem.W.keepIn K (.ref (He.ga K (PySem.Str.ofString "_law_names"))) = true := D5.kp
  have a5 : mg (PySem.Str.ofString "_law_names") = some (.ref (He.ga K (PySem.Str.ofString "_law_names"))) := (He.glo_ok X G (sayA c 4 (f := .glo (PySem.Str.ofString "_law_names")) rfl))
  obtain ⟨fd6, D6⟩ := sayD c 5 (d := hd__law_pattern) rfl
  replace D6 : FunD K (PySem.Str.ofString "_law_pattern") (PySem.Str.ofString "_law_pattern") (defArgs s__law_pattern) (defBody s__law_pattern) (defScope s__law_pattern) [] [] (He.ga K (PySem.Str.ofString "_law_pattern")) fd6 := D6
  have F6 : Fun K (PySem.Str.ofString "_law_pattern") (PySem.Str.ofString "_law_pattern") s__law_pattern (He.ga K (PySem.Str.ofString "_law_pattern")) fd6 := He5.fun_of D6
  have k6 : PySem.W.keepIn K (.ref (He.ga K (PySem.Str.ofString "_law_pattern"))) = true := D6.kp
  have a6 : mg (PySem.Str.ofString "_law_pattern") = some (.ref (He.ga K (PySem.Str.ofString "_law_pattern"))) := (He.glo_ok X G (sayA c 5 (f := .glo (PySem.Str.ofString "_law_pattern")) rfl))
  obtain ⟨fd7, D7⟩ := sayD c 6 (d := hd__law_part) rfl
  replace D7 : FunD K (PySem.Str.ofString "_law_part") (PySem.Str.ofString "_law_part") (defArgs s__law_part) (defBody s__law_part) (defScope s__law_part) [] [] (He.ga K (PySem.Str.ofString "_law_part")) fd7 := D7
  have F7 : Fun K (PySem.Str.ofString "_law_part") (PySem.Str.ofString "_law_part") s__law_part (He.ga K (PySem.Str.ofString "_law_part")) fd7 := He5.fun_of D7
  have k7 : PySem.W.keepIn K (.ref (He.ga K (PySem.Str.ofString "_law_part"))) = true := D7.kp
  have a7 : mg (PySem.Str.ofString "_law_part") = some (.ref (He.ga K (PySem.Str.ofString "_law_part"))) := (He.glo_ok X G (sayA c 6 (f := .glo (PySem.Str.ofString "_law_part")) rfl))
  obtain ⟨fd8, D8⟩ := sayD c 7 (d := hd__law_condition) rfl
  replace D8 : FunD K (PySem.Str.ofString "_law_condition") (PySem.Str.ofString "_law_condition") (defArgs s__law_condition) (defBody s__law_condition) (defScope s__law_condition) [] [] (He.ga K (PySem.Str.ofString "_law_condition")) fd8 := D8
  have F8 : Fun K (PySem.Str.ofString "_law_condition") (PySem.Str.ofString "_law_condition") s__law_condition (He.ga K (PySem.Str.ofString "_law_condition")) fd8 := He5.fun_of D8
  have k8 : PySem.W.keepIn K (.ref (He.ga K (PySem.Str.ofString "_law_condition"))) = true := D8.kp
  have a8 : mg (PySem.Str.ofString "_law_condition") = some (.ref (He.ga K (PySem.Str.ofString "_law_condition"))) := (He.glo_ok X G (sayA c 7 (f := .glo (PySem.Str.ofString "_law_condition")) rfl))
  obtain ⟨fd9, D9⟩ := sayD c 8 (d := hd_normal) rfl
  replace D9 : FunD K (PySem.Str.ofString "normal") (PySem.Str.ofString "normal") (defArgs s_normal) (defBody s_normal) (defScope s_normal) [] [] (He.ga K (PySem.Str.ofString "normal")) fd9 := D9
  have F9 : Fun K (PySem.Str.ofString "normal") (PySem.Str.ofString "normal") s_normal (He.ga K (PySem.Str.ofString "normal")) fd9 := He5.fun_of D9
  have k9 : PySem.W.keepIn K (.ref (He.ga K (PySem.Str.ofString "normal"))) = true := D9.kp
  have a9 : mg (PySem.Str.ofString "normal") = some (.ref (He.ga K (PySem.Str.ofString "normal"))) := (He.glo_ok X G (sayA c 8 (f := .glo (PySem.Str.ofString "normal")) rfl))
  obtain ⟨fd10, D10⟩ := sayD c 9 (d := hd_joined) rfl
  replace D10 : FunD K (PySem.Str.ofString "joined") (PySem.Str.ofString "joined") (defArgs s_joined) (defBody s_joined) (defScope s_joined) [] [] (He.ga K (PySem.Str.ofString "joined")) fd10 := D10
  have F10 : Fun K (PySem.Str.ofString "joined") (PySem.Str.ofString "joined") s_joined (He.ga K (PySem.Str.ofString "joined")) fd10 := He5.fun_of D10
  have k10 : PySem.W.keepIn K (.ref (He.ga K (PySem.Str.ofString "joined"))) = true := D10.kp
  have a10 : mg (PySem.Str.ofString "joined") = some (.ref (He.ga K (PySem.Str.ofString "joined"))) := (He.glo_ok X G (sayA c 9 (f := .glo (PySem.Str.ofString "joined")) rfl))
  obtain ⟨fd11, D11⟩ := sayD c 10 (d := hd_members_of) rfl
  replace D11 : FunD K (PySem.Str.ofString "members_of") (PySem.Str.ofString "members_of") (defArgs s_members_of) (defBody s_members_of) (defScope s_members_of) [] [] (He.ga K (PySem.Str.ofString "members_of")) fd11 := D11
  have F11 : Fun K (PySem.Str.ofString "members_of") (PySem.Str.ofString "members_of") s_members_of (He.ga K (PySem.Str.ofString "members_of")) fd11 := He5.fun_of D11
  have k11 : PySem.W.keepIn K (.ref (He.ga K (PySem.Str.ofString "members_of"))) = true := D11.kp
  have a11 : mg (PySem.Str.ofString "members_of") = some (.ref (He.ga K (PySem.Str.ofString "members_of"))) := (He.glo_ok X G (sayA c 10 (f := .glo (PySem.Str.ofString "members_of")) rfl))
  obtain ⟨fd12, D12⟩ := sayD c 11 (d := hd__law_nodes) rfl
  replace D12 : FunD K (PySem.Str.ofString "_law_nodes") (PySem.Str.ofString "_law_nodes") (defArgs s__law_nodes) (defBody s__law_nodes) (defScope s__law_nodes) [] [] (He.ga K (PySem.Str.ofString "_law_nodes")) fd12 := D12
  have F12 : Fun K (PySem.Str.ofString "_law_nodes") (PySem.Str.ofString "_law_nodes") s__law_nodes (He.ga K (PySem.Str.ofString "_law_nodes")) fd12 := He5.fun_of D12
  have k12 : PySem.W.keepIn K (.ref (He.ga K (PySem.Str.ofString "_law_nodes"))) = true := D12.kp
  have a12 : mg (PySem.Str.ofString "_law_nodes") = some (.ref (He.ga K (PySem.Str.ofString "_law_nodes"))) := (He.glo_ok X G (sayA c 11 (f := .glo (PySem.Str.ofString "_law_nodes")) rfl))
  obtain ⟨fd13, D13⟩ := sayD c 12 (d := hd__law_value) rfl
  replace D13 : FunD K (PySem.Str.ofString "_law_value") (PySem.Str.ofString "_law_value") (defArgs s__law_value) (defBody s__law_value) (defScope s__law_value) [] [] (He.ga K (PySem.Str.ofString "_law_value")) fd13 := D13
  have F13 : Fun K (PySem.Str.ofString "_law_value") (PySem.Str.ofString "_law_value") s__law_value (He.ga K (PySem.Str.ofString "_law_value")) fd13 := He5.fun_of D13
  have k13 : PySem.W.keepIn K (.ref (He.ga K (PySem.Str.ofString "_law_value"))) = true := D13.kp
  have a13 : mg (PySem.Str.ofString "_law_value") = some (.ref (He.ga K (PySem.Str.ofString "_law_value"))) := (He.glo_ok X G (sayA c 12 (f := .glo (PySem.Str.ofString "_law_value")) rfl))
  obtain ⟨fd14, D14⟩ := sayD c 13 (d := hd__law_meaning) rfl
  replace D14 : FunD K (PySem.Str.ofString "_law_meaning") (PySem.Str.ofString "_law_meaning") (defArgs s__law_meaning) (defBody s__law_meaning) (defScope s__law_meaning) [] [] (He.ga K (PySem.Str.ofString "_law_meaning")) fd14 := D14
  have F14 : Fun K (PySem.Str.ofString "_law_meaning") (PySem.Str.ofString "_law_meaning") s__law_meaning (He.ga K (PySem.Str.ofString "_law_meaning")) fd14 := He5.fun_of D14
  have k14 : PySem.W.keepIn K (.ref (He.ga K (PySem.Str.ofString "_law_meaning"))) = true := D14.kp
  have a14 : mg (PySem.Str.ofString "_law_meaning") = some (.ref (He.ga K (PySem.Str.ofString "_law_meaning"))) := (He.glo_ok X G (sayA c 13 (f := .glo (PySem.Str.ofString "_law_meaning")) rfl))
  obtain ⟨fd15, D15⟩ := sayD c 14 (d := hd__law_is_condition) rfl
  replace D15 : FunD K (PySem.Str.ofString "_law_is_condition") (PySem.Str.ofString "_law_is_condition") (defArgs s__law_is_condition) (defBody s__law_is_condition) (defScope s__law_is_condition) [] [] (He.ga K (PySem.Str.ofString "_law_is_condition")) fd15 := D15
  have F15 : Fun K (PySem.Str.ofString "_law_is_condition") (PySem.Str.ofString "_law_is_condition") s__law_is_condition (He.ga K (PySem.Str.ofString "_law_is_condition")) fd15 := He5.fun_of D15
  have k15 : PySem.W.keepIn K (.ref (He.ga K (PySem.Str.ofString "_law_is_condition"))) = true := D15.kp
  have a15 : mg (PySem.Str.ofString "_law_is_condition") = some (.ref (He.ga K (PySem.Str.ofString "_law_is_condition"))) := (He.glo_ok X G (sayA c 14 (f := .glo (PySem.Str.ofString "_law_is_condition")) rfl))
  obtain ⟨fd16, D16⟩ := sayD c 15 (d := hd__law_matches) rfl
  replace D16 : FunD K (PySem.Str.ofString "_law_matches") (PySem.Str.ofString "_law_matches") (defArgs s__law_matches) (defBody s__law_matches) (defScope s__law_matches) [] [] (He.ga K (PySem.Str.ofString "_law_matches")) fd16 := D16
  have F16 : Fun K (PySem.Str.ofString "_law_matches") (PySem.Str.ofString "_law_matches") s__law_matches (He.ga K (PySem.Str.ofString "_law_matches")) fd16 := He5.fun_of D16
  have k16 : PySem.W.keepIn K (.ref (He.ga K (PySem.Str.ofString "_law_matches"))) = true := D16.kp
  have a16 : mg (PySem.Str.ofString "_law_matches") = some (.ref (He.ga K (PySem.Str.ofString "_law_matches"))) := (He.glo_ok X G (sayA c 15 (f := .glo (PySem.Str.ofString "_law_matches")) rfl))
  obtain ⟨fd17, D17⟩ := sayD c 16 (d := hd__law_holds) rfl
  replace D17 : FunD K (PySem.Str.ofString "_law_holds") (PySem.Str.ofString "_law_holds") (defArgs s__law_holds) (defBody s__law_holds) (defScope s__law_holds) [] [] (He.ga K (PySem.Str.ofString "_law_holds")) fd17 := D17
  have F17 : Fun K (PySem.Str.ofString "_law_holds") (PySem.Str.ofString "_law_holds") s__law_holds (He.ga K (PySem.Str.ofString "_law_holds")) fd17 := He5.fun_of D17
  have k17 : PySem.W.keepIn K (.ref (He.ga K (PySem.Str.ofString "_law_holds"))) = true := D17.kp
  have a17 : mg (PySem.Str.ofString "_law_holds") = some (.ref (He.ga K (PySem.Str.ofString "_law_holds"))) := (He.glo_ok X G (sayA c 16 (f := .glo (PySem.Str.ofString "_law_holds")) rfl))
  obtain ⟨fd18, D18⟩ := sayD c 17 (d := hd_law) rfl
  replace D18 : FunD K (PySem.Str.ofString "law") (PySem.Str.ofString "law") (defArgs s_law) (defBody s_law) (defScope s_law) [] [] (He.ga K (PySem.Str.ofString "law")) fd18 := D18
  have F18 : Fun K (PySem.Str.ofString "law") (PySem.Str.ofString "law") s_law (He.ga K (PySem.Str.ofString "law")) fd18 := He5.fun_of D18
  have k18 : PySem.W.keepIn K (.ref (He.ga K (PySem.Str.ofString "law"))) = true := D18.kp
  have a18 : mg (PySem.Str.ofString "law") = some (.ref (He.ga K (PySem.Str.ofString "law"))) := (He.glo_ok X G (sayA c 17 (f := .glo (PySem.Str.ofString "law")) rfl))
  have e := hfa.symm.trans a18
  cases e
  have m_abs : mg (PySem.Str.ofString "abs") = none := He.free_ok X G (sayA c 18 (f := .free (PySem.Str.ofString "abs")) rfl)
  have m_int : mg (PySem.Str.ofString "int") = none := He.free_ok X G (sayA c 19 (f := .free (PySem.Str.ofString "int")) rfl)
  have m_isinstance : mg (PySem.Str.ofString "isinstance") = none := He.free_ok X G (sayA c 20 (f := .free (PySem.Str.ofString "isinstance")) rfl)
  have m_len : mg (PySem.Str.ofString "len") = none := He.free_ok X G (sayA c 21 (f := .free (PySem.Str.ofString "len")) rfl)
  have m_list : mg (PySem.Str.ofString "list") = none := He.free_ok X G (sayA c 22 (f := .free (PySem.Str.ofString "list")) rfl)
  have m_min : mg (PySem.Str.ofString "min") = none := He.free_ok X G (sayA c 23 (f := .free (PySem.Str.ofString "min")) rfl)
  have m_range : mg (PySem.Str.ofString "range") = none := He.free_ok X G (sayA c 24 (f := .free (PySem.Str.ofString "range")) rfl)
  have m_repr : mg (PySem.Str.ofString "repr") = none := He.free_ok X G (sayA c 25 (f := .free (PySem.Str.ofString "repr")) rfl)
  have m_str : mg (PySem.Str.ofString "str") = none := He.free_ok X G (sayA c 26 (f := .free (PySem.Str.ofString "str")) rfl)
  have m_tuple : mg (PySem.Str.ofString "tuple") = none := He.free_ok X G (sayA c 27 (f := .free (PySem.Str.ofString "tuple")) rfl)
  have g_ALWAYS : TupC K mg (PySem.Str.ofString "ALWAYS") [D.str (PySem.Str.ofString "always")] := tup_f (He.glo_ok X G (sayA c 28 (f := .glo (PySem.Str.ofString "ALWAYS")) rfl)) (sayX c 0 (f := .tup (PySem.Str.ofString "ALWAYS") [(PySem.Str.ofString "always")]) rfl) (by decide)
  have g_NEVER : TupC K mg (PySem.Str.ofString "NEVER") [D.str (PySem.Str.ofString "never")] := tup_f (He.glo_ok X G (sayA c 29 (f := .glo (PySem.Str.ofString "NEVER")) rfl)) (sayX c 1 (f := .tup (PySem.Str.ofString "NEVER") [(PySem.Str.ofString "never")]) rfl) (by decide)
  refine ⟨fd18, fun s v => (D18.bindsA (ps := ["_law_script"]) fun _ _ _ _ _ _ us hl => match us, hl with | [_], _ => rfl) s [v] rfl, fun base Xb Gb => ?_⟩
  have o__law_deck := ok__law_deck (P := l.prog) (w := w) (mg := mg) (base := base) F1 m_int m_list
  have c__law_deck : Cl l.prog w K mg base 1 "_law_deck" 1 F__law_deck [] := cl_mk o__law_deck a1 k1 (F1.binds fun _ _ _ _ _ _ us hl => match us, hl with | [_], _ => rfl)
  have o__law_draw := ok__law_draw (P := l.prog) (w := w) (mg := mg) (base := base) F2 m_abs m_int m_len
  have c__law_draw : Cl l.prog w K mg base 1 "_law_draw" 2 F__law_draw [] := cl_mk o__law_draw a2 k2 (F2.binds fun _ _ _ _ _ _ us hl => match us, hl with | [_, _], _ => rfl)
  have o__law_letter := ok__law_letter (P := l.prog) (w := w) (mg := mg) (base := base) F3 c__law_draw
  have c__law_letter : Cl l.prog w K mg base 2 "_law_letter" 1 F__law_letter [] := cl_mk o__law_letter a3 k3 (F3.binds fun _ _ _ _ _ _ us hl => match us, hl with | [_], _ => rfl)
  have o__law_text := ok__law_text (P := l.prog) (w := w) (mg := mg) (base := base) F4 c__law_draw c__law_letter m_range
  have c__law_text : Cl l.prog w K mg base 3 "_law_text" 2 F__law_text [] := cl_mk o__law_text a4 k4 (F4.binds fun _ _ _ _ _ _ us hl => match us, hl with | [_, _], _ => rfl)
  have o__law_names := ok__law_names (P := l.prog) (w := w) (mg := mg) (base := base) F5 c__law_letter c__law_text m_int m_range
  have c__law_names : Cl l.prog w K mg base 4 "_law_names" 3 F__law_names [] := cl_mk o__law_names a5 k5 (F5.binds fun _ _ _ _ _ _ us hl => match us, hl with | [_, _, _], _ => rfl)
  have o__law_pattern := ok__law_pattern (P := l.prog) (w := w) (mg := mg) (base := base) F6 c__law_draw c__law_letter m_range
  have c__law_pattern : Cl l.prog w K mg base 3 "_law_pattern" 1 F__law_pattern [] := cl_mk o__law_pattern a6 k6 (F6.binds fun _ _ _ _ _ _ us hl => match us, hl with | [_], _ => rfl)
  have o__law_part := ok__law_part (P := l.prog) (w := w) (mg := mg) (base := base) F7 a7 k7 c__law_draw c__law_pattern m_len m_min m_range m_tuple 40
  have c__law_part : Cl l.prog w K mg base 44 "_law_part" 4 (Lw.F__law_part 40) [] := cl_mk o__law_part a7 k7 (F7.binds fun _ _ _ _ _ _ us hl => match us, hl with | [_, _, _, _], _ => rfl)
  have o__law_condition := ok__law_condition (P := l.prog) (w := w) (mg := mg) (base := base) F8 c__law_part
  have c__law_condition : Cl l.prog w K mg base 45 "_law_condition" 4 F__law_condition [] := cl_mk o__law_condition a8 k8 (F8.binds fun _ _ _ _ _ _ us hl => match us, hl with | [_, _, _, _], _ => rfl)
  have o_normal := ok_normal (P := l.prog) (w := w) (mg := mg) (base := base) F9 a9 k9 F10 a10 k10 F11 a11 k11 g_ALWAYS g_NEVER m_len m_tuple 40
  have c_normal : Cl l.prog w K mg base 41 "normal" 1 (Lw.F_normal 40) [] := cl_mk o_normal.1 a9 k9 (F9.binds fun _ _ _ _ _ _ us hl => match us, hl with | [_], _ => rfl)
  have c_joined : Cl l.prog w K mg base 41 "joined" 4 (Lw.F_joined 40) [] := cl_mk o_normal.2.1 a10 k10 (F10.binds fun _ _ _ _ _ _ us hl => match us, hl with | [_, _, _, _], _ => rfl)
  have c_members_of : Cl l.prog w K mg base 41 "members_of" 2 (Lw.F_members_of 40) [] := cl_mk o_normal.2.2 a11 k11 (F11.binds fun _ _ _ _ _ _ us hl => match us, hl with | [_, _], _ => rfl)
  have o__law_nodes := ok__law_nodes (P := l.prog) (w := w) (mg := mg) (base := base) F12 a12 k12  40
  have c__law_nodes : Cl l.prog w K mg base 41 "_law_nodes" 1 (Lw.F__law_nodes 40) [] := cl_mk o__law_nodes a12 k12 (F12.binds fun _ _ _ _ _ _ us hl => match us, hl with | [_], _ => rfl)
  have o__law_value := ok__law_value (P := l.prog) (w := w) (mg := mg) (base := base) F13 c__law_draw c__law_text m_len
  have c__law_value : Cl l.prog w K mg base 4 "_law_value" 2 F__law_value [] := cl_mk o__law_value a13 k13 (F13.binds fun _ _ _ _ _ _ us hl => match us, hl with | [_, _], _ => rfl)
  have o__law_meaning := ok__law_meaning (P := l.prog) (w := w) (mg := mg) (base := base) F14 c__law_value
  have c__law_meaning : Cl l.prog w K mg base 5 "_law_meaning" 2 F__law_meaning [] := cl_mk o__law_meaning a14 k14 (F14.binds fun _ _ _ _ _ _ us hl => match us, hl with | [_, _], _ => rfl)
  have o__law_is_condition := ok__law_is_condition (P := l.prog) (w := w) (mg := mg) (base := base) F15 a15 k15 m_isinstance m_len m_tuple 40
  have c__law_is_condition : Cl l.prog w K mg base 41 "_law_is_condition" 3 (Lw.F__law_is_condition 40) [] := cl_mk o__law_is_condition a15 k15 (F15.binds fun _ _ _ _ _ _ us hl => match us, hl with | [_, _, _], _ => rfl)
  have o__law_matches := ok__law_matches (P := l.prog) (w := w) (mg := mg) (base := base) F16 m_len m_range
  have c__law_matches : Cl l.prog w K mg base 1 "_law_matches" 2 F__law_matches [] := cl_mk o__law_matches a16 k16 (F16.binds fun _ _ _ _ _ _ us hl => match us, hl with | [_, _], _ => rfl)
  have o__law_holds := ok__law_holds (P := l.prog) (w := w) (mg := mg) (base := base) F17 a17 k17 c__law_matches m_isinstance m_len m_repr m_str 40
  have c__law_holds : ClG l.prog w K mg base 42 "_law_holds" 2 (Lw.F__law_holds 40) [] := clG_mk o__law_holds a17 k17 (F17.binds fun _ _ _ _ _ _ us hl => match us, hl with | [_, _], _ => rfl)
  have o_law := ok_law (P := l.prog) (w := w) (mg := mg) (base := base) F18 c__law_condition c__law_deck c__law_draw c__law_holds c__law_is_condition c__law_meaning c__law_names c__law_nodes c_normal m_len m_range
  exact law_spG o_law law_true
end Lw
open PySem PySem.W PySem.Calls PyProof.Rows
set_option maxHeartbeats 0 in
theorem PySem.Challenge.cw_talkalike_k25_normal_form_means_the_same_holds : PySem.Challenge.rw_talkalike_k25_normal_form_means_the_same.Holds := by
  w_on; o_law
  refine HandSHeadRun.head_any (r := Lw.hdR) (q := view Lw.hdR.prog [21]) (H := Dn.hookL Lw.hd_fa Lw.hd_fx Lw.hd_fn Lw.hd_ts) (ob := Dn.obL Lw.hd_fa Lw.hd_fx Lw.hd_fn Lw.hd_ts) (M := 20000) (loose := Lw.hd_names) (d := HandSHeadRun.topDef Lw.hdR.prog 21) (kwd := [])
    Dn.obL_eq (by kernel_rfl) (fun s => by kernel_rfl) Lw.hd_run (by kernel_rfl) (by kernel_rfl) (by kernel_rfl) (by rfl) (by first | assumption | decide +kernel) (by decide +kernel) ⟨rfl, rfl, rfl, rfl, rfl, by decide +kernel⟩ ?hw ?hc
  case hw => w_witness2
  case hc =>
    refine Dn.walk_LG (l := PySem.Challenge.rw_talkalike_k25_normal_form_means_the_same) (k := 46) (x := "_law_script") rfl (by kernel_rfl) ⟨rfl, by decide, by decide⟩ ?F
    intro w mg fa h Y G hm
    obtain ⟨K, KX, c⟩ := Y
    have hn : (HandSHeadRun.topDef Lw.hdR.prog 21).name = (PySem.Str.ofString "law") := by kernel_rfl
    rw [hn] at hm
    exact ⟨K, KX, Lw.all_mk KX G hm c⟩
