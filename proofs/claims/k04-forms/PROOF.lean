import PyProof.Rows.All
import Wide.All
import OpenK.AllK
import Wide.FinOn
import HandS.Head0
import HandS.Head1
import HandS.Head2
import HandS.HeadEnd
import HandS.HeadHook1
import HandS.HeadHook2
import HandS.HeadNt
import KE.KExcPX
import HandS.ExcCtx
import HandS.ForMost
import HandS.Walk
import HandS.Deep
import HandS.Evl
import HandS.ExcOwn
import HandS.WordsExc
import HandS.CallSlots
import HandS.TupAny
import HandS.Style
import HandS.IsInst
import KE.DataCmp
import HandS.StrMore
import HandS.Replace
import HandS.Zip
import HandS.More
import HandS.ExcInit
import HandS.ExcField
import HandS.TryOnly
import HandS.Defaults
import HandS.ClsMeth
import HandS.ExcIs
import KE.KExcIs
import HandS.Property
import HandS.RaiseMore
import HandS.SortKw
import HandS.TupLen
import KE.DatumOrd
import KE.GoesZip
import PyProof.DictMoreH
import PyProof.ReprRoads
import KE.KEqDict
import HandS.HotCalls
import PySem.Challenge.RW_talkalike_k04_forms
set_option Elab.async false
set_option linter.all false
set_option maxRecDepth 100000
set_option maxHeartbeats 2000000
set_option autoImplicit false

namespace Dn
open PySem L2
open He (ga ma eqO eqO_ok ba)

/-! ## 0. The head: what is looked at behind the top (proved of in 60) -/
def clsB : Stmt → List Stmt
  | .ClassDef (body := b) .. => b
  | _ => []
/-- a property's getter -/
def prA (K : PySem.W.Frag) (C : Addr) (m : Str) : Addr := match PySem.W.recIn K (ma K C m) "property" with
  | some (.ref f :: _) => f
  | _ => 0
/-- the words of a class of errors -/
def excX (K : PySem.W.Frag) (C : Addr) : Bool := match K.lookup C with
  | some ⟨.type c, _, .cls cd, sl⟩ => decide (c = "type") && ((match cd.mro with
    | .ref C' :: bm => decide (C' = C) && PySem.HandSPX.refsVE bm
    | _ => false) && ((match sl.toList with
    | [_, _, _, _, some (.builtin n), _] => decide (n = "ValueError.__new__")
    | _ => false) && (cd.hasDict && !cd.hasDel)))
  | _ => false
/-- an empty tuple -/
def unitB (K : PySem.W.Frag) (a : Addr) : Bool := match K.lookup a with
  | some ⟨.type c, _, .seq its _, _⟩ => decide (c = "tuple") && its.isEmpty
  | _ => false
/-- texts, one by one -/
def strsB : List Str → List Value → Bool
  | [], [] => true
  | x :: xs, .str y _ :: us => decide (x = y) && strsB xs us
  | _, _ => false
def tupX (K : PySem.W.Frag) (a : Addr) (zs : List Str) : Bool := match K.lookup a with
  | some ⟨.type c, _, .seq its _, _⟩ => decide (c = "tuple") && (decide (its.size ≤ sizeLine) && strsB zs its.toList)
  | _ => false
/-- a module's dict of texts and ints, with the hashes -/
def rowD (e : DictEntry) : Option (Str × Int × Int) := match e.key, e.val with
  | .str x _, .int i _ => some (x, i, e.hash)
  | _, _ => none
def dicX (K : PySem.W.Frag) (a : Addr) : Option (List (Option (Str × Int × Int))) := match K.lookup a with
  | some ⟨.type c, none, .dict es _, sl⟩ => (match decide (c = "dict") && (sl.isEmpty && !(a == sysModules)) with
    | true => some (es.toList.map rowD)
    | false => none)
  | _ => none
def rowsX (P : Params) (l : List (Str × Int)) : List (Option (Str × Int × Int)) := l.map fun q => some (q.1, q.2, PyData.keyHash P q.1)
inductive Fx where
  | sub (c d : Str) (b : Bool)
  | subT (c : Str) (t : String) (b : Bool)
  | exc (c : Str)
  | exc0 (c : Str)
  | exi (c : Str)
  | prp (c m : Str)
  | unit (a : PySem.W.Frag → Addr)
  | tup (x : Str) (zs : List Str)
def Fx.ok (K : PySem.W.Frag) : Fx → Bool
  | .sub c d b => decide (PySem.W.subIn K (.ref (ga K c)) (.ref (ga K d)) = some b)
  | .subT c t b => decide (PySem.W.subIn K (.ref (ga K c)) (.type t) = some b)
  | .exc c => excX K (ga K c) && (eqO (PySem.W.findIn K (.ref (ga K c)) "__setattr__") (some (some (.builtin "object.__setattr__"))) && (eqO (PySem.W.findIn K (.ref (ga K c)) "__getattribute__") (some (some (.builtin "BaseException.__getattribute__"))) &&
      (eqO (PySem.W.findIn K (.ref (ga K c)) "__getattr__") (some none) && (eqO (PySem.W.findIn K (.ref (ga K c)) "word") (some none) && (eqO (PySem.W.findIn K (.ref (ga K c)) "place") (some none) && (PySem.W.keepIn K (.ref (ga K c)) &&
      (decide (PySem.W.subIn K (.ref (ga K c)) (.type "BaseException") = some true) && (decide (PySem.W.typeIn K (.ref (ga K c)) = some (.type "type")) && (PySem.W.hasDictIn K (ga K c) && (eqO (PySem.W.findIn K (.ref (ga K c)) "__class__") (some (some (.builtin "object.__class__"))) &&
      (eqO (PySem.W.specialIn K (.builtin "object.__class__") "__get__") (some (some (.builtin "getset_descriptor.__get__"))) && (decide (PySem.W.takesIn K (.builtin "object.__class__") = some true) && decide (PySem.W.mroIn K (ga K c) (.type "object") = some true)))))))))))))
  | .exc0 c => PySem.W.readsIn K (ga K c) (.type "type") && (eqO (PySem.W.specialIn K (.ref (ga K c)) "__getattribute__") (some (some (.builtin "type.__getattribute__"))) && (match PySem.W.findCls K (.ref (ga K c)) (.type "type") "__init__" with
    | some (.val (.ref f)) => decide (f = ma K (ga K c) "__init__")
    | _ => false))
  | .exi c => eqO (PySem.W.findIn K (.ref (ga K c)) "__init__") (some (some (.ref (ma K (ga K c) "__init__")))) && decide (PySem.W.typeIn K (.ref (ma K (ga K c) "__init__")) = some (.type "function"))
  | .prp c m => eqO (PySem.W.findIn K (.ref (ga K c)) m) (some (some (.ref (ma K (ga K c) m)))) && (eqO (PySem.W.specialIn K (.ref (ma K (ga K c) m)) "__get__") (some (some (.builtin "property.__get__"))) && (decide (PySem.W.takesIn K (.ref (ma K (ga K c) m)) = some true) &&
    (match PySem.W.recIn K (ma K (ga K c) m) "property" with
    | some (.ref f :: _) => decide (f = prA K (ga K c) m)
    | _ => false)))
  | .unit a => unitB K (a K)
  | .tup x zs => tupX K (ga K x) zs
def rfF (g : Addr → Option Obj) (a : Addr) : List Addr := match g a with
  | some ⟨_, _, .func fd, _⟩ => a :: (He.refV fd.code ++ (match fd.defaults with
    | .ref T => T :: (match g T with
      | some ⟨_, _, .seq its _, _⟩ => its.toList.flatMap He.refV
      | _ => [])
    | _ => []))
  | _ => [a]
def rfM (g : Addr → Option Obj) (v : Value) : List Addr := match v with
  | .ref m => (match g m with
    | some ⟨_, _, .fields vs, _⟩ => m :: vs.toList.flatMap fun v => match v with
      | .ref f => rfF g f
      | _ => []
    | _ => rfF g m)
  | _ => []
def rfV (g : Addr → Option Obj) (v : Value) : List Addr := match v with
  | .ref a => (match g a with
    | some ⟨_, _, .cls cd, _⟩ => a :: cd.ns :: (match g cd.ns with
      | some ⟨_, _, .dict es _, _⟩ => es.toList.flatMap fun e => rfM g e.val
      | _ => [])
    | some ⟨_, _, .seq its _, _⟩ => a :: its.toList.flatMap He.refV
    | _ => rfF g a)
  | _ => []
def asL (g : Addr → Option Obj) : List Addr := mainGlobals :: PySem.cStatics :: (match g mainGlobals with
  | some ⟨_, _, .dict es _, _⟩ => es.toList.flatMap fun e => rfV g e.val
  | _ => [])
abbrev TabK : Type := Str × List (Str × Int)
abbrev AlL : Type := Bool × List He5.FnW × List (Option (List (Option (Str × Int × Int))))
def obsL (fa : List He.Fa) (fx : List Fx) (fn : List He5.DefA) (ts : List TabK) (K : PySem.W.Frag) : AlL :=
  ((fa.all fun f => f.ok K) && ((fx.all fun f => f.ok K) && fn.all fun d => d.ok K), fn.map (fun d => He5.fnA K (d.at_ K)), ts.map fun t => dicX K (ga K t.1))
def valL (fn : List He5.DefA) (ts : List TabK) (w : World) : AlL := (true, fn.map He5.DefA.val, ts.map fun t => some (rowsX w.params t.2))
def hookL (fa : List He.Fa) (fx : List Fx) (fn : List He5.DefA) (ts : List TabK) : PySem.W.Hook where
  α := AlL
  obs := fun s => obsL fa fx fn ts (He.frG s.heap.get? (asL s.heap.get?))
  val := fun w => valL fn ts w
  says := fun w h => ∃ K : PySem.W.Frag, K.In h ∧ obsL fa fx fn ts K = valL fn ts w
  of := fun _ _ e => ⟨_, He.frG_in, e⟩
  keeps := fun _ _ _ ⟨K, hK, c⟩ k => ⟨K, PySem.W.Frag.In.keeps hK k, c⟩
def obL (fa : List He.Fa) (fx : List Fx) (fn : List He5.DefA) (ts : List TabK) (s : PySem.W.SharedT) : AlL := obsL fa fx fn ts (He.frG (HandSHeadRun.getT s) (asL (HandSHeadRun.getT s)))
end Dn


namespace Lw
open PySem L2 Dn
/-! ### the text -/
def topS (i : Nat) : Stmt := PySem.Challenge.pw_talkalike_k04_forms.main.body.getD i (.Pass ⟨0, 0, 0, 0⟩)
abbrev s__law_cell : Stmt := topS 14
abbrev s__law_row : Stmt := topS 15
abbrev s__law_value : Stmt := topS 16
abbrev s__law_due : Stmt := topS 17
abbrev s_is_pattern : Stmt := topS 10
abbrev s_check_pattern : Stmt := topS 11
abbrev s__law_asks_check : Stmt := topS 19
abbrev s__law_is : Stmt := topS 18
abbrev s_is_text : Stmt := topS 6
abbrev s_is_plain : Stmt := topS 12
abbrev s_law : Stmt := topS 20
abbrev m_TalkError : Stmt := (clsB (topS 1)).getD 0 (.Pass ⟨0, 0, 0, 0⟩)
abbrev m_BadPattern : Stmt := (clsB (topS 2)).getD 0 (.Pass ⟨0, 0, 0, 0⟩)
abbrev m_TooManyPatterns : Stmt := (clsB (topS 3)).getD 0 (.Pass ⟨0, 0, 0, 0⟩)
/-! ### the head -/
def hd__law_cell : He5.DefA := ⟨fun K => He.ga K (PySem.Str.ofString "_law_cell"), (PySem.Str.ofString "_law_cell"), (PySem.Str.ofString "_law_cell"), defArgs s__law_cell, defBody s__law_cell, defScope s__law_cell, [], []⟩
def hd__law_row : He5.DefA := ⟨fun K => He.ga K (PySem.Str.ofString "_law_row"), (PySem.Str.ofString "_law_row"), (PySem.Str.ofString "_law_row"), defArgs s__law_row, defBody s__law_row, defScope s__law_row, [], []⟩
def hd__law_value : He5.DefA := ⟨fun K => He.ga K (PySem.Str.ofString "_law_value"), (PySem.Str.ofString "_law_value"), (PySem.Str.ofString "_law_value"), defArgs s__law_value, defBody s__law_value, defScope s__law_value, [], []⟩
def hd__law_due : He5.DefA := ⟨fun K => He.ga K (PySem.Str.ofString "_law_due"), (PySem.Str.ofString "_law_due"), (PySem.Str.ofString "_law_due"), defArgs s__law_due, defBody s__law_due, defScope s__law_due, [], []⟩
def hd_is_pattern : He5.DefA := ⟨fun K => He.ga K (PySem.Str.ofString "is_pattern"), (PySem.Str.ofString "is_pattern"), (PySem.Str.ofString "is_pattern"), defArgs s_is_pattern, defBody s_is_pattern, defScope s_is_pattern, [], []⟩
def hd_check_pattern : He5.DefA := ⟨fun K => He.ga K (PySem.Str.ofString "check_pattern"), (PySem.Str.ofString "check_pattern"), (PySem.Str.ofString "check_pattern"), defArgs s_check_pattern, defBody s_check_pattern, defScope s_check_pattern, [], []⟩
def hd__law_asks_check : He5.DefA := ⟨fun K => He.ga K (PySem.Str.ofString "_law_asks_check"), (PySem.Str.ofString "_law_asks_check"), (PySem.Str.ofString "_law_asks_check"), defArgs s__law_asks_check, defBody s__law_asks_check, defScope s__law_asks_check, [], []⟩
def hd__law_is : He5.DefA := ⟨fun K => He.ga K (PySem.Str.ofString "_law_is"), (PySem.Str.ofString "_law_is"), (PySem.Str.ofString "_law_is"), defArgs s__law_is, defBody s__law_is, defScope s__law_is, [], []⟩
def hd_is_text : He5.DefA := ⟨fun K => He.ga K (PySem.Str.ofString "is_text"), (PySem.Str.ofString "is_text"), (PySem.Str.ofString "is_text"), defArgs s_is_text, defBody s_is_text, defScope s_is_text, [], []⟩
def hd_is_plain : He5.DefA := ⟨fun K => He.ga K (PySem.Str.ofString "is_plain"), (PySem.Str.ofString "is_plain"), (PySem.Str.ofString "is_plain"), defArgs s_is_plain, defBody s_is_plain, defScope s_is_plain, [], []⟩
def hd_law : He5.DefA := ⟨fun K => He.ga K (PySem.Str.ofString "law"), (PySem.Str.ofString "law"), (PySem.Str.ofString "law"), defArgs s_law, defBody s_law, defScope s_law, [], []⟩
def hd_TalkError : He5.DefA := ⟨fun K => He.ma K (He.ga K (PySem.Str.ofString "TalkError")) (PySem.Str.ofString "__init__"), (PySem.Str.ofString "__init__"), (PySem.Str.ofString "TalkError.__init__"), defArgs m_TalkError, defBody m_TalkError, defScope m_TalkError, [.non], []⟩
def hd_BadPattern : He5.DefA := ⟨fun K => He.ma K (He.ga K (PySem.Str.ofString "BadPattern")) (PySem.Str.ofString "__init__"), (PySem.Str.ofString "__init__"), (PySem.Str.ofString "BadPattern.__init__"), defArgs m_BadPattern, defBody m_BadPattern, defScope m_BadPattern, [.non], []⟩
def hd_fn_0 : List He5.DefA := [hd__law_cell, hd__law_row, hd__law_value, hd__law_due, hd_is_pattern, hd_check_pattern, hd__law_asks_check, hd__law_is, hd_is_text, hd_is_plain, hd_law, hd_TalkError, hd_BadPattern]
def hd_fn : List He5.DefA := hd_fn_0
def hd_fa_0 : List He.Fa := [.glo (PySem.Str.ofString "_law_cell"), .glo (PySem.Str.ofString "_law_row"), .glo (PySem.Str.ofString "_law_value"), .glo (PySem.Str.ofString "_law_due"), .glo (PySem.Str.ofString "is_pattern"), .glo (PySem.Str.ofString "check_pattern"), .glo (PySem.Str.ofString "_law_asks_check"), .glo (PySem.Str.ofString "_law_is"), .glo (PySem.Str.ofString "is_text"), .glo (PySem.Str.ofString "is_plain"), .glo (PySem.Str.ofString "law"), .free (PySem.Str.ofString "ValueError"), .free (PySem.Str.ofString "all"), .free (PySem.Str.ofString "bool"), .free (PySem.Str.ofString "int"), .free (PySem.Str.ofString "isinstance"), .free (PySem.Str.ofString "len"), .free (PySem.Str.ofString "range"), .free (PySem.Str.ofString "repr"), .free (PySem.Str.ofString "str"), .int (PySem.Str.ofString "SIGNS_MOST") (8), .int (PySem.Str.ofString "STARS_MOST") (2), .str (PySem.Str.ofString "LETTERS") (PySem.Str.ofString "abcdefghijklmnopqrstuvwxyz"), .glo (PySem.Str.ofString "TalkError"), .glo (PySem.Str.ofString "BadPattern"), .glo (PySem.Str.ofString "TooManyPatterns")]
def hd_fa : List He.Fa := hd_fa_0
def hd_fx_0 : List Fx := [.exc (PySem.Str.ofString "TalkError"), .exc (PySem.Str.ofString "BadPattern"), .exc (PySem.Str.ofString "TooManyPatterns"), .exi (PySem.Str.ofString "TalkError"), .exi (PySem.Str.ofString "BadPattern"), .exc0 (PySem.Str.ofString "TalkError"), .sub (PySem.Str.ofString "TalkError") (PySem.Str.ofString "TalkError") true, .sub (PySem.Str.ofString "BadPattern") (PySem.Str.ofString "TalkError") true, .sub (PySem.Str.ofString "TooManyPatterns") (PySem.Str.ofString "TalkError") true, .sub (PySem.Str.ofString "TalkError") (PySem.Str.ofString "BadPattern") false, .sub (PySem.Str.ofString "BadPattern") (PySem.Str.ofString "BadPattern") true, .sub (PySem.Str.ofString "TooManyPatterns") (PySem.Str.ofString "BadPattern") false, .sub (PySem.Str.ofString "TalkError") (PySem.Str.ofString "TooManyPatterns") false, .sub (PySem.Str.ofString "TooManyPatterns") (PySem.Str.ofString "TooManyPatterns") true, .sub (PySem.Str.ofString "BadPattern") (PySem.Str.ofString "TooManyPatterns") false, .subT (PySem.Str.ofString "TalkError") "ValueError" true, .subT (PySem.Str.ofString "BadPattern") "ValueError" true, .subT (PySem.Str.ofString "TooManyPatterns") "ValueError" true]
def hd_fx : List Fx := hd_fx_0
def hd_ts_0 : List TabK := []
def hd_ts : List TabK := hd_ts_0
def hd_names_0 : List Str := [(PySem.Str.ofString "__name__"), (PySem.Str.ofString "TalkError"), (PySem.Str.ofString "BadPattern"), (PySem.Str.ofString "TooManyPatterns"), (PySem.Str.ofString "LETTERS"), (PySem.Str.ofString "is_text"), (PySem.Str.ofString "SIGNS_MOST"), (PySem.Str.ofString "STARS_MOST"), (PySem.Str.ofString "is_pattern"), (PySem.Str.ofString "check_pattern"), (PySem.Str.ofString "is_plain"), (PySem.Str.ofString "_law_cell"), (PySem.Str.ofString "_law_row"), (PySem.Str.ofString "_law_value"), (PySem.Str.ofString "_law_due"), (PySem.Str.ofString "_law_is"), (PySem.Str.ofString "_law_asks_check")]
def hd_names : List Str := hd_names_0
abbrev hdR : PySem.W.OpenRow := PySem.W.OpenLaw.row PySem.Challenge.rw_talkalike_k04_forms
set_option maxHeartbeats 0 in
theorem hd_run (w : World) : HandSHeadRun.RunEq hdR (PySem.W.view hdR.prog [20]) (hookL hd_fa hd_fx hd_fn hd_ts) (obL hd_fa hd_fx hd_fn hd_ts) 20000 hd_names w := fun os => by kernel_rfl
end Lw
/-! # A denotational layer over HandS: what an expression, a statement, a def computes, as a plain Lean function on data (no heap, no addresses); shown sound once, rule by rule -/
namespace Dn
open PySem L2
open Evl (Ex)

/-! ## 1. Data -/
inductive D where
  | non | bl (b : Bool) | int (i : Int) | str (s : Str) | lst (xs : List D) | tup (xs : List D) | scr (ns : List Int)
  /-- any value: nothing is known of it -/
  | opq
  /-- a dict: its keys and values in order -/
  | dct (ks : List L2.Key) (xs : List D)
  /-- an instance of the program's class c: its attributes in order -/
  | ins (c : Str) (ns : List Str) (xs : List D)
/-- an error: its class's name, and what its own fields hold -/
structure Exn where
  cls : Str
  fs : List (Str × D)
/-- a tree of one's own: lists, dicts and instances in it that may still change -/
inductive T where
  | fr (d : D) | lst (xs : List D) | dct (ks : List L2.Key) (xs : List D)
  /-- a dict whose keys are tuples of whole numbers and texts -/
  | dtt (ks : List (List L2.Key)) (xs : List D)
  | tup (ts : List T) | ins (c : Str) (ns : List Str) (ts : List T)
/-- what a slot holds: frozen data, a list of its own that may still change, a dict of its own, an error that was caught (at a, its fields at d) -/
inductive O where
  | fr (d : D) | lst (xs : List D) | dct (ks : List L2.Key) (xs : List D) | ins (c : Str) (ns : List Str) (xs : List D) | exn (a d : Addr) (x : Exn) | tr (t : T)
def O.d : O → D
  | .fr d => d
  | .lst xs => .lst xs
  | .dct ks xs => .dct ks xs
  | .ins c ns xs => .ins c ns xs
  | .exn _ _ _ => .opq
  | .tr _ => .opq
@[simp] theorem O.d_fr (d : D) : (O.fr d).d = d := rfl
@[simp] theorem O.d_lst (xs : List D) : (O.lst xs).d = .lst xs := rfl
@[simp] theorem O.d_dct (ks : List L2.Key) (xs : List D) : (O.dct ks xs).d = .dct ks xs := rfl
@[simp] theorem O.d_ins (c : Str) (ns : List Str) (xs : List D) : (O.ins c ns xs).d = .ins c ns xs := rfl
/-- the program's class c stands at C -/
def ClsN (K : PySem.W.Frag) (c : Str) (C : Addr) : Prop := PySem.W.nsIn K mainGlobals c = some (some (.ref C))

/-- a tuple: one of the heap's, or a written one of at most one item -/
def SqK (K : PySem.W.Frag) (B : Hp) (a : Addr) (xs : List V) : Prop := B a = some (.tup xs) ∨ (xs.length ≤ 1 ∧ SqT K B a xs)
theorem SqK.sq {K : PySem.W.Frag} {B : Hp} {a : Addr} {xs : List V} (h : SqK K B a xs) : SqT K B a xs := h.elim (fun e => .inl (.inl e)) (·.2)
theorem SqK.ex {K : PySem.W.Frag} {B B' : Hp} {a : Addr} {xs : List V} (e : Ex B B') (h : SqK K B a xs) : SqK K B' a xs := h.imp (e _ _) fun z => ⟨z.1, Evl.ex_t e z.2⟩
mutual
inductive Rep (K : PySem.W.Frag) (B : Hp) : V → D → Prop
  | non : Rep K B .non .non
  | bl (b : Bool) : Rep K B (.bl b) (.bl b)
  | int (i : Int) : Rep K B (.int i) (.int i)
  | str (x : Str) : Rep K B (.str x) (.str x)
  | lst {a : Addr} {xs : List V} {ds : List D} : B a = some (.lst xs) → RepL K B xs ds → Rep K B (.ref a) (.lst ds)
  | tup {a : Addr} {xs : List V} {ds : List D} : SqK K B a xs → RepL K B xs ds → Rep K B (.ref a) (.tup ds)
  | scr {a : Addr} {ns : List Int} : SqL K B a (ns.map V.int) → Rep K B (.ref a) (.scr ns)
  | opq (v : V) : Rep K B v .opq
  | dct {a : Addr} {kv : List (L2.Key × V)} {ks : List L2.Key} {ds : List D} : B a = some (.dK kv) → kv.map (·.1) = ks → RepL K B (kv.map (·.2)) ds → Rep K B (.ref a) (.dct ks ds)
  | ins {a dx C : Addr} {fs : List (Str × V)} {c : Str} {ns : List Str} {ds : List D} : B a = some (.ins C dx fs) → ClsN K c C → fs.map (·.1) = ns → RepL K B (fs.map (·.2)) ds → Rep K B (.ref a) (.ins c ns ds)
inductive RepL (K : PySem.W.Frag) (B : Hp) : List V → List D → Prop
  | nil : RepL K B [] []
  | cons {v : V} {vs : List V} {d : D} {ds : List D} : Rep K B v d → RepL K B vs ds → RepL K B (v :: vs) (d :: ds)
end

section
variable {K : PySem.W.Frag} {B B' H H' : Hp} {v : V} {d : D} {vs : List V} {ds : List D}
mutual
theorem Rep.mono (e : Ex B B') : ∀ {v : V} {d : D}, Rep K B v d → Rep K B' v d
  | _, _, .non => .non
  | _, _, .bl b => .bl b
  | _, _, .int i => .int i
  | _, _, .str x => .str x
  | _, _, .opq v => .opq v
  | _, _, .dct h hk hs => .dct (e _ _ h) hk (RepL.mono e hs)
  | _, _, .ins h hc hk hs => .ins (e _ _ h) hc hk (RepL.mono e hs)
  | _, _, .lst h hs => .lst (e _ _ h) (RepL.mono e hs)
  | _, _, .scr h => .scr (Evl.ex_l e h)
  | _, _, .tup h hs => .tup (SqK.ex e h) (RepL.mono e hs)
theorem RepL.mono (e : Ex B B') : ∀ {vs : List V} {ds : List D}, RepL K B vs ds → RepL K B' vs ds
  | _, _, .nil => .nil
  | _, _, .cons h hs => .cons (Rep.mono e h) (RepL.mono e hs)
end
theorem RepL.length : ∀ {vs : List V} {ds : List D}, RepL K B vs ds → vs.length = ds.length
  | _, _, .nil => rfl
  | _, _, .cons _ hs => by rw [List.length_cons, List.length_cons, hs.length]
theorem RepL.get : ∀ {vs : List V} {ds : List D} {i : Nat} {d : D}, RepL K B vs ds → ds[i]? = some d → ∃ v, vs[i]? = some v ∧ Rep K B v d
  | _, _, _, _, .nil, e => by simp at e
  | _, _, 0, _, .cons h _, e => by simp at e; subst e; exact ⟨_, rfl, h⟩
  | _, _, i + 1, d, .cons _ hs, e => by
    obtain ⟨v, e1, e2⟩ := RepL.get (i := i) (d := d) hs (by simpa using e)
    exact ⟨v, by simpa using e1, e2⟩
theorem RepL.get' : ∀ {vs : List V} {ds : List D} {i : Nat} {v : V}, RepL K B vs ds → vs[i]? = some v → ∃ d, ds[i]? = some d ∧ Rep K B v d
  | _, _, _, _, .nil, e => by simp at e
  | _, _, 0, _, .cons h _, e => by simp at e; subst e; exact ⟨_, rfl, h⟩
  | _, _, i + 1, v, .cons _ hs, e => by
    obtain ⟨d, e1, e2⟩ := RepL.get' (i := i) (v := v) hs (by simpa using e)
    exact ⟨d, by simpa using e1, e2⟩
theorem RepL.append : ∀ {vs ws : List V} {ds es : List D}, RepL K B vs ds → RepL K B ws es → RepL K B (vs ++ ws) (ds ++ es)
  | _, _, _, _, .nil, h => h
  | _, _, _, _, .cons h hs, k => .cons h (RepL.append hs k)
theorem RepL.take : ∀ {vs : List V} {ds : List D} (n : Nat), RepL K B vs ds → RepL K B (vs.take n) (ds.take n)
  | _, _, 0, _ => .nil
  | _, _, _ + 1, .nil => .nil
  | _, _, n + 1, .cons h hs => .cons h (RepL.take n hs)
theorem RepL.drop : ∀ {vs : List V} {ds : List D} (n : Nat), RepL K B vs ds → RepL K B (vs.drop n) (ds.drop n)
  | _, _, 0, h => h
  | _, _, _ + 1, .nil => .nil
  | _, _, n + 1, .cons _ hs => RepL.drop n hs
theorem RepL.set : ∀ {vs : List V} {ds : List D} (n : Nat) {v : V} {d : D}, RepL K B vs ds → Rep K B v d → RepL K B (vs.set n v) (ds.set n d)
  | _, _, _, _, _, .nil, _ => .nil
  | _, _, 0, _, _, .cons _ hs, k => .cons k hs
  | _, _, n + 1, _, _, .cons h hs, k => .cons h (RepL.set n hs k)
theorem RepL.erase : ∀ {vs : List V} {ds : List D} (n : Nat), RepL K B vs ds → RepL K B (vs.eraseIdx n) (ds.eraseIdx n)
  | _, _, _, .nil => .nil
  | _, _, 0, .cons _ hs => hs
  | _, _, n + 1, .cons h hs => .cons h (RepL.erase n hs)
theorem RepL.reverse {vs : List V} {ds : List D} (h : RepL K B vs ds) : RepL K B vs.reverse ds.reverse := by
  induction ds generalizing vs with
  | nil => cases h; exact .nil
  | cons d ds ih =>
    cases h with
    | cons h hs =>
      rw [List.reverse_cons, List.reverse_cons]
      exact (ih hs).append (.cons h .nil)
theorem RepL.one (h : Rep K B v d) : RepL K B [v] [d] := .cons h .nil

theorem repL_ints : ∀ ns : List Int, RepL K B (ns.map V.int) (ns.map D.int)
  | [] => .nil
  | n :: ns => .cons (.int n) (repL_ints ns)
theorem repL_strs : ∀ ns : List Str, RepL K B (ns.map V.str) (ns.map D.str)
  | [] => .nil
  | n :: ns => .cons (.str n) (repL_strs ns)
theorem repL_of_ints : ∀ {vs : List V} {ns : List Int}, RepL K B vs (ns.map D.int) → vs = ns.map V.int
  | _, [], .nil => rfl
  | _, n :: ns, .cons h hs => by
    cases h
    rw [repL_of_ints hs]; rfl
theorem repL_of_strs : ∀ {vs : List V} {ns : List Str}, RepL K B vs (ns.map D.str) → vs = ns.map V.str
  | _, [], .nil => rfl
  | _, n :: ns, .cons h hs => by
    cases h
    rw [repL_of_strs hs]; rfl
theorem repL_of_bools : ∀ {vs : List V} {ns : List Bool}, RepL K B vs (ns.map D.bl) → vs = ns.map V.bl
  | _, [], .nil => rfl
  | _, n :: ns, .cons h hs => by
    cases h
    rw [repL_of_bools hs]; rfl
end

mutual
/-- v stands for the tree t; S: the addresses of its own -/
inductive RepT (K : PySem.W.Frag) (B H : Hp) : V → T → (Addr → Prop) → Prop
  | fr {v : V} {d : D} {S : Addr → Prop} : Rep K B v d → (∀ a, ¬ S a) → RepT K B H v (.fr d) S
  | lst {p : Addr} {xs : List V} {ds : List D} {S : Addr → Prop} : H p = some (.lst xs) → RepL K B xs ds → (∀ a, S a ↔ a = p) → RepT K B H (.ref p) (.lst ds) S
  | dct {p : Addr} {kv : List (L2.Key × V)} {ks : List L2.Key} {ds : List D} {S : Addr → Prop} : H p = some (.dK kv) → kv.map (·.1) = ks → RepL K B (kv.map (·.2)) ds → (∀ a, S a ↔ a = p) → RepT K B H (.ref p) (.dct ks ds) S
  | dtt {p : Addr} {kv : List (List L2.Key × V)} {ks : List (List L2.Key)} {ds : List D} {S : Addr → Prop} : H p = some (.dT kv) → kv.map (·.1) = ks → RepL K B (kv.map (·.2)) ds → (∀ a, S a ↔ a = p) → RepT K B H (.ref p) (.dtt ks ds) S
  | tup {p : Addr} {vs : List V} {ts : List T} {S : Addr → Prop} : SqK K B p vs → RepTs K B H vs ts S → RepT K B H (.ref p) (.tup ts) S
  | ins {p dx C : Addr} {fs : List (Str × V)} {c : Str} {ns : List Str} {ts : List T} {S S1 : Addr → Prop} : H p = some (.ins C dx fs) → ClsN K c C → fs.map (·.1) = ns → RepTs K B H (fs.map (·.2)) ts S1 → ¬ S1 p → (∀ a, S a ↔ a = p ∨ S1 a) → RepT K B H (.ref p) (.ins c ns ts) S
inductive RepTs (K : PySem.W.Frag) (B H : Hp) : List V → List T → (Addr → Prop) → Prop
  | nil {S : Addr → Prop} : (∀ a, ¬ S a) → RepTs K B H [] [] S
  | cons {v : V} {vs : List V} {t : T} {ts : List T} {S S1 S2 : Addr → Prop} : RepT K B H v t S1 → RepTs K B H vs ts S2 → (∀ a, S1 a → ¬ S2 a) → (∀ a, S a ↔ S1 a ∨ S2 a) → RepTs K B H (v :: vs) (t :: ts) S
end
section
variable {K : PySem.W.Frag} {B B' H H' : Hp}
theorem RepT.iff {v : V} {t : T} {S S' : Addr → Prop} (h : RepT K B H v t S) (i : ∀ a, S a ↔ S' a) : RepT K B H v t S' := by
  cases h with
  | fr h n => exact .fr h fun a z => n a ((i a).mpr z)
  | lst h r e => exact .lst h r fun a => (i a).symm.trans (e a)
  | dct h k r e => exact .dct h k r fun a => (i a).symm.trans (e a)
  | dtt h k r e => exact .dtt h k r fun a => (i a).symm.trans (e a)
  | tup h r =>
    cases r with
    | nil n => exact .tup h (.nil fun a z => n a ((i a).mpr z))
    | cons a b d e => exact .tup h (.cons a b d fun x => (i x).symm.trans (e x))
  | ins h c k r n e => exact .ins h c k r n fun a => (i a).symm.trans (e a)
mutual
theorem RepT.frame (hb : Ex B B') : ∀ {v : V} {t : T} {S : Addr → Prop}, RepT K B H v t S → (∀ a o, S a → H a = some o → H' a = some o) → RepT K B' H' v t S
  | _, _, _, .fr h n, _ => .fr (h.mono hb) n
  | _, _, _, .lst h r e, k => .lst (k _ _ ((e _).mpr rfl) h) (r.mono hb) e
  | _, _, _, .dct h q r e, k => .dct (k _ _ ((e _).mpr rfl) h) q (r.mono hb) e
  | _, _, _, .dtt h q r e, k => .dtt (k _ _ ((e _).mpr rfl) h) q (r.mono hb) e
  | _, _, _, .tup h r, k => .tup (SqK.ex hb h) (RepTs.frame hb r k)
  | _, _, _, .ins h c q r n e, k => .ins (k _ _ ((e _).mpr (.inl rfl)) h) c q (RepTs.frame hb r fun a o z => k a o ((e a).mpr (.inr z))) n e
theorem RepTs.frame (hb : Ex B B') : ∀ {vs : List V} {ts : List T} {S : Addr → Prop}, RepTs K B H vs ts S → (∀ a o, S a → H a = some o → H' a = some o) → RepTs K B' H' vs ts S
  | _, _, _, .nil n, _ => .nil n
  | _, _, _, .cons a b d e, k => .cons (RepT.frame hb a fun x o z => k x o ((e x).mpr (.inl z))) (RepTs.frame hb b fun x o z => k x o ((e x).mpr (.inr z))) d e
end
mutual
theorem RepT.kind : ∀ {v : V} {t : T} {S : Addr → Prop}, RepT K B H v t S → ∀ a, S a → ∀ fs, H a ≠ some (.xd fs)
  | _, _, _, .fr h n, a, z, _, _ => n a z
  | _, _, _, .lst h r e, a, z, _, q => by rw [(e a).mp z, h] at q; cases q
  | _, _, _, .dct h _ r e, a, z, _, q => by rw [(e a).mp z, h] at q; cases q
  | _, _, _, .dtt h _ r e, a, z, _, q => by rw [(e a).mp z, h] at q; cases q
  | _, _, _, .tup h r, a, z, fs, q => RepTs.kind r a z fs q
  | _, _, _, .ins h c k r n e, a, z, fs, q => by
    rcases (e a).mp z with z | z
    · rw [z, h] at q; cases q
    · exact RepTs.kind r a z fs q
theorem RepTs.kind : ∀ {vs : List V} {ts : List T} {S : Addr → Prop}, RepTs K B H vs ts S → ∀ a, S a → ∀ fs, H a ≠ some (.xd fs)
  | _, _, _, .nil n, a, z, _, _ => n a z
  | _, _, _, .cons r1 r2 d e, a, z, fs, q => ((e a).mp z).elim (fun z => RepT.kind r1 a z fs q) fun z => RepTs.kind r2 a z fs q
end
end

/-! ## 2. Slots, states, growth -/
abbrev Sl := List (Option O)
inductive Ro (α : Type) where
  | ok (a : α) (e : Sl) | ex (x : Exn) (e : Sl)
abbrev M (α : Type) := Sl → Option (Ro α)
@[inline] def M.pure {α : Type} (a : α) : M α := fun e => some (.ok a e)
@[inline] def M.bind {α β : Type} (m : M α) (f : α → M β) : M β := fun e => match m e with
  | none => none
  | some (.ex x e') => some (.ex x e')
  | some (.ok a e') => f a e'
@[inline] def M.stuck {α : Type} : M α := fun _ => none

/-- what an error's own fields hold -/
def XF (K : PySem.W.Frag) (B : Hp) (fs : List (Str × V)) (gs : List (Str × D)) : Prop := Paired (fun (p : Str × V) (q : Str × D) => p.1 = q.1 ∧ Rep K B p.2 q.2) fs gs
theorem XF.mono {K : PySem.W.Frag} {B B' : Hp} {fs : List (Str × V)} {gs : List (Str × D)} (h : XF K B fs gs) (e : Ex B B') : XF K B' fs gs := Paired.mapP h fun _ _ z => ⟨z.1, z.2.mono e⟩
/-- v stands for o; S: the addresses of its own -/
def RepO (K : PySem.W.Frag) (B H : Hp) (v : V) : O → (Addr → Prop) → Prop
  | .fr d, S => Rep K B v d ∧ ∀ a, ¬ S a
  | .lst ds, S => ∃ p xs, v = .ref p ∧ H p = some (.lst xs) ∧ RepL K B xs ds ∧ ∀ a, S a ↔ a = p
  | .dct ks xs, S => ∃ p kv, v = .ref p ∧ H p = some (.dK kv) ∧ kv.map (·.1) = ks ∧ RepL K B (kv.map (·.2)) xs ∧ ∀ a, S a ↔ a = p
  | .ins c ns xs, S => ∃ p C dx fs, v = .ref p ∧ H p = some (.ins C dx fs) ∧ ClsN K c C ∧ fs.map (·.1) = ns ∧ RepL K B (fs.map (·.2)) xs ∧ ∀ a, S a ↔ a = p
  | .exn a d x, S => v = .ref a ∧ (∃ fs, B d = some (.xd fs) ∧ XF K B fs x.fs) ∧ ∀ a, ¬ S a
  | .tr t, S => RepT K B H v t S
/-- the addresses of one's own: live, not frozen -/
def Own (B H : Hp) (S : Addr → Prop) : Prop := ∀ a, S a → B a = none ∧ ∃ o, H a = some o

structure Rp (K : PySem.W.Frag) (B H : Hp) (σ : St) (e : Sl) (S : Nat → Addr → Prop) : Prop where
  len : σ.length = e.length
  ex : Ex B H
  rep : ∀ i o, e[i]? = some (some o) → ∃ v, σ[i]? = some (some v) ∧ RepO K B H v o (S i)
  dis : ∀ i j a, S i a → S j a → i = j
  own : ∀ i, Own B H (S i)
def tot (S : Nat → Addr → Prop) : Addr → Prop := fun a => ∃ i, S i a
/-- from (B, H) with the own addresses S to (B', H') with S' -/
structure Fr (B H : Hp) (S : Addr → Prop) (B' H' : Hp) (S' : Addr → Prop) : Prop where
  b : Ex B B'
  k : ∀ a o, H a = some o → ¬ S a → H' a = some o
  n : ∀ a, S' a → S a ∨ H a = none
  c : ∀ a o, B' a = some o → B a = some o ∨ S a ∨ H a = none
  a : ∀ a o, H a = some o → ∃ o', H' a = some o'
def noS : Addr → Prop := fun _ => False

theorem Fr.refl (B H : Hp) (S : Addr → Prop) : Fr B H S B H S := ⟨Ex.refl B, fun _ _ h _ => h, fun _ h => .inl h, fun _ _ h => .inl h, fun _ o h => ⟨o, h⟩⟩
theorem Fr.trans {B H B1 H1 B2 H2 : Hp} {S S1 S2 : Addr → Prop} (f : Fr B H S B1 H1 S1) (g : Fr B1 H1 S1 B2 H2 S2) : Fr B H S B2 H2 S2 := by
  have nn : ∀ a, H1 a = none → H a = none := fun a h => by
    cases q : H a with
    | none => rfl
    | some o => obtain ⟨o', e⟩ := f.a a o q; rw [h] at e; cases e
  refine ⟨f.b.trans g.b, fun a o h hs => ?_, fun a h => ?_, fun a o h => ?_, fun a o h => ?_⟩
  · refine g.k a o (f.k a o h hs) fun z => ?_
    rcases f.n a z with z | z
    · exact hs z
    · rw [h] at z; cases z
  · rcases g.n a h with z | z
    · exact f.n a z
    · exact .inr (nn a z)
  · rcases g.c a o h with z | z | z
    · exact f.c a o z
    · rcases f.n a z with y | y
      · exact .inr (.inl y)
      · exact .inr (.inr y)
    · exact .inr (.inr (nn a z))
  · obtain ⟨o', e⟩ := f.a a o h
    exact g.a a o' e
/-- what is free behind was free ahead -/
theorem Fr.back {B H B1 H1 : Hp} {S S1 : Addr → Prop} (f : Fr B H S B1 H1 S1) {a : Addr} (h : H1 a = none) : H a = none := by
  cases q : H a with
  | none => rfl
  | some o => obtain ⟨o', e⟩ := f.a a o q; rw [h] at e; cases e
/-- fewer own addresses behind, more ahead -/
theorem Fr.imp {B H B1 H1 : Hp} {S S1 S' S1' : Addr → Prop} (f : Fr B H S B1 H1 S1) (h : ∀ a, S a → S' a) (h1 : ∀ a, S1' a → S1 a) : Fr B H S' B1 H1 S1' :=
  ⟨f.b, fun a o e n => f.k a o e fun z => n (h a z), fun a z => (f.n a (h1 a z)).elim (fun y => .inl (h a y)) .inr, fun a o e => (f.c a o e).elim .inl fun y => .inr (y.elim (fun z => .inl (h a z)) .inr), f.a⟩

section
variable {K : PySem.W.Frag} {B B' H H' : Hp} {v : V} {o : O} {σ : St} {e : Sl} {S S' : Nat → Addr → Prop} {T T' : Addr → Prop}
theorem RepO.frame (h : RepO K B H v o T) (ho : Own B H T) (hd : ∀ a, T a → ¬ T' a) {T2 : Addr → Prop} (f : Fr B H T' B' H' T2) : RepO K B' H' v o T ∧ Own B' H' T ∧ ∀ a, T a → ¬ T2 a := by
  have hk : ∀ a o, T a → H a = some o → H' a = some o := fun a o ht e => f.k a o e (hd a ht)
  refine ⟨?_, fun a ht => ?_, fun a ht z => ?_⟩
  · cases o with
    | fr d => exact ⟨h.1.mono f.b, h.2⟩
    | lst ds =>
      obtain ⟨p, xs, e, hp, hr, hs⟩ := h
      exact ⟨p, xs, e, hk p _ ((hs p).mpr rfl) hp, hr.mono f.b, hs⟩
    | dct kvs =>
      obtain ⟨p, kv, e, hp, hk', hr, hs⟩ := h
      exact ⟨p, kv, e, hk p _ ((hs p).mpr rfl) hp, hk', hr.mono f.b, hs⟩
    | ins c ns xs =>
      obtain ⟨p, C, dx, fs, e, hp, hc, hk', hr, hs⟩ := h
      exact ⟨p, C, dx, fs, e, hk p _ ((hs p).mpr rfl) hp, hc, hk', hr.mono f.b, hs⟩
    | exn a d x =>
      obtain ⟨e, ⟨fs, hd, hx⟩, hs⟩ := h
      exact ⟨e, ⟨fs, f.b _ _ hd, hx.mono f.b⟩, hs⟩
    | tr t => exact RepT.frame f.b h hk
  · obtain ⟨h1, o, h2⟩ := ho a ht
    refine ⟨?_, o, hk a o ht h2⟩
    cases q : B' a with
    | none => rfl
    | some u =>
      rcases f.c a u q with z | z | z
      · rw [h1] at z; cases z
      · exact absurd z (hd a ht)
      · rw [h2] at z; cases z
  · rcases f.n a z with y | y
    · exact hd a ht y
    · obtain ⟨_, o, h2⟩ := ho a ht
      rw [h2] at y; cases y
/-- what a one-way growth does: new objects only -/
structure Gr (B H B' H' : Hp) : Prop where
  b : Ex B B'
  h : Ex H H'
  s : Ex B' H'
  c : ∀ a o, B' a = some o → B a = some o ∨ H a = none
theorem Gr.refl (h : Ex B H) : Gr B H B H := ⟨Ex.refl B, Ex.refl H, h, fun _ _ e => .inl e⟩
theorem Gr.trans {B1 H1 B2 H2 : Hp} (f : Gr B H B1 H1) (g : Gr B1 H1 B2 H2) : Gr B H B2 H2 :=
  ⟨f.b.trans g.b, f.h.trans g.h, g.s, fun a o e => (g.c a o e).elim (fun z => f.c a o z) fun z => .inr (Evl.fresh_back f.h z)⟩
/-- a new frozen object -/
theorem Gr.new (h : Ex B H) {p : Addr} (hp : H p = none) (o : HO) : Gr B H (upd B p o) (upd H p o) := by
  have hb : B p = none := by
    cases q : B p with
    | none => rfl
    | some u => have := h p u q; rw [hp] at this; cases this
  refine ⟨Ex.new hb, Ex.new hp, fun a u e => ?_, fun a u e => ?_⟩
  · by_cases ha : a = p
    · subst ha; rw [upd_same] at e ⊢; exact e
    · rw [upd_ne ha] at e ⊢; exact h a u e
  · by_cases ha : a = p
    · subst ha; exact .inr hp
    · rw [upd_ne ha] at e; exact .inl e
/-- a new object of one's own -/
theorem Gr.own (h : Ex B H) {p : Addr} (hp : H p = none) (o : HO) : Gr B H B (upd H p o) :=
  ⟨Ex.refl B, Ex.new hp, h.trans (Ex.new hp), fun _ _ e => .inl e⟩
theorem Gr.fr (g : Gr B H B' H') (T : Addr → Prop) : Fr B H T B' H' T :=
  ⟨g.b, fun a o h _ => g.h a o h, fun _ h => .inl h, fun a o h => (g.c a o h).elim .inl fun z => .inr (.inr z), fun a o h => ⟨o, g.h a o h⟩⟩
theorem RepO.grow (h : RepO K B H v o T) (g : Gr B H B' H') : RepO K B' H' v o T := by
  cases o with
  | fr d => exact ⟨h.1.mono g.b, h.2⟩
  | lst ds =>
    obtain ⟨p, xs, e, hp, hr, hs⟩ := h
    exact ⟨p, xs, e, g.h p _ hp, hr.mono g.b, hs⟩
  | dct kvs =>
    obtain ⟨p, kv, e, hp, hk', hr, hs⟩ := h
    exact ⟨p, kv, e, g.h p _ hp, hk', hr.mono g.b, hs⟩
  | ins c ns xs =>
    obtain ⟨p, C, dx, fs, e, hp, hc, hk', hr, hs⟩ := h
    exact ⟨p, C, dx, fs, e, g.h p _ hp, hc, hk', hr.mono g.b, hs⟩
  | exn a d x =>
    obtain ⟨e, ⟨fs, hd, hx⟩, hs⟩ := h
    exact ⟨e, ⟨fs, g.b _ _ hd, hx.mono g.b⟩, hs⟩
  | tr t => exact RepT.frame g.b h fun a o _ q => g.h a o q
theorem Own.grow (h : Own B H T) (g : Gr B H B' H') : Own B' H' T := fun a ha => by
  obtain ⟨h1, o, h2⟩ := h a ha
  refine ⟨?_, o, g.h a o h2⟩
  cases q : B' a with
  | none => rfl
  | some u =>
    rcases g.c a u q with z | z
    · rw [h1] at z; cases z
    · rw [h2] at z; cases z
theorem Rp.grow (h : Rp K B H σ e S) (g : Gr B H B' H') : Rp K B' H' σ e S :=
  ⟨h.len, g.s, fun i o ho => let ⟨v, h1, h2⟩ := h.rep i o ho; ⟨v, h1, h2.grow g⟩, h.dis, fun i => (h.own i).grow g⟩
/-- the same slots, the own addresses of some -/
theorem Rp.mem (h : Rp K B H σ e S) {i : Nat} (hi : e[i]? = some (some o)) : ∃ v, σ[i]? = some (some v) ∧ RepO K B H v o (S i) := h.rep i o hi

/-- a value beside the slots -/
structure Vl (K : PySem.W.Frag) (B H : Hp) (σ : St) (e : Sl) (S : Nat → Addr → Prop) (v : V) (o : O) (T : Addr → Prop) : Prop where
  rp : Rp K B H σ e S
  ro : RepO K B H v o T
  own : Own B H T
  dj : ∀ a, T a → ¬ tot S a
theorem own_no : Own B H noS := fun _ h => h.elim
theorem Vl.fr (h : Rp K B H σ e S) {d : D} (r : Rep K B v d) : Vl K B H σ e S v (.fr d) noS := ⟨h, ⟨r, fun _ z => z⟩, own_no, fun _ z => z.elim⟩

/-- v into slot i -/
theorem Vl.set (h : Vl K B H σ e S v o T) (i : Nat) : Rp K B H (σ.set i (some v)) (e.set i (some o)) (fun j => if j = i then (if i < e.length then T else noS) else S j) := by
  refine ⟨by rw [List.length_set, List.length_set, h.rp.len], h.rp.ex, fun j o' ho => ?_, fun j k a h1 h2 => ?_, fun j a h1 => ?_⟩
  · by_cases hj : j = i
    · subst hj
      have hl : j < e.length := by
        have := (List.getElem?_eq_some_iff.mp ho).1
        rwa [List.length_set] at this
      rw [List.getElem?_set_self hl] at ho
      cases ho
      refine ⟨v, by rw [List.getElem?_set_self (by rw [h.rp.len]; exact hl)], ?_⟩
      simp only [if_pos hl, if_true]
      exact h.ro
    · rw [List.getElem?_set_ne (Ne.symm hj)] at ho
      obtain ⟨w, h1, h2⟩ := h.rp.rep j o' ho
      exact ⟨w, by rw [List.getElem?_set_ne (Ne.symm hj)]; exact h1, by rw [if_neg hj]; exact h2⟩
  · by_cases hj : j = i <;> by_cases hk : k = i
    · rw [hj, hk]
    · simp only [hj, if_true] at h1
      rw [if_neg hk] at h2
      by_cases hl : i < e.length
      · rw [if_pos hl] at h1; exact absurd ⟨k, h2⟩ (h.dj a h1)
      · rw [if_neg hl] at h1; exact h1.elim
    · simp only [hk, if_true] at h2
      rw [if_neg hj] at h1
      by_cases hl : i < e.length
      · rw [if_pos hl] at h2; exact absurd ⟨j, h1⟩ (h.dj a h2)
      · rw [if_neg hl] at h2; exact h2.elim
    · rw [if_neg hj] at h1; rw [if_neg hk] at h2
      exact h.rp.dis j k a h1 h2
  · by_cases hj : j = i
    · simp only [hj, if_true] at h1
      by_cases hl : i < e.length
      · rw [if_pos hl] at h1; exact h.own a h1
      · rw [if_neg hl] at h1; exact h1.elim
    · rw [if_neg hj] at h1; exact h.rp.own j a h1
theorem tot_set {i : Nat} {n : Nat} {a : Addr} (h : tot (fun j => if j = i then (if i < n then T else noS) else S j) a) : T a ∨ tot S a := by
  obtain ⟨j, h⟩ := h
  by_cases hj : j = i
  · simp only [hj, if_true] at h
    by_cases hl : i < n
    · rw [if_pos hl] at h; exact .inl h
    · rw [if_neg hl] at h; exact h.elim
  · rw [if_neg hj] at h; exact .inr ⟨j, h⟩
/-- a slot forgotten -/
theorem Rp.forget (h : Rp K B H σ e S) (i : Nat) : Rp K B H σ (e.set i none) (fun j => if j = i then noS else S j) := by
  refine ⟨by rw [List.length_set]; exact h.len, h.ex, fun j o ho => ?_, fun j k a h1 h2 => ?_, fun j a h1 => ?_⟩
  · by_cases hj : j = i
    · subst hj
      by_cases hl : j < e.length
      · rw [List.getElem?_set_self hl] at ho; cases ho
      · rw [List.getElem?_eq_none (by rw [List.length_set]; omega)] at ho; cases ho
    · rw [List.getElem?_set_ne (Ne.symm hj)] at ho
      obtain ⟨w, h1, h2⟩ := h.rep j o ho
      exact ⟨w, h1, by rw [if_neg hj]; exact h2⟩
  · by_cases hj : j = i
    · rw [if_pos hj] at h1; exact h1.elim
    · by_cases hk : k = i
      · rw [if_pos hk] at h2; exact h2.elim
      · rw [if_neg hj] at h1; rw [if_neg hk] at h2
        exact h.dis j k a h1 h2
  · by_cases hj : j = i
    · rw [if_pos hj] at h1; exact h1.elim
    · rw [if_neg hj] at h1; exact h.own j a h1
theorem tot_forget {i : Nat} {a : Addr} (h : tot (fun j => if j = i then noS else S j) a) : tot S a := by
  obtain ⟨j, h⟩ := h
  by_cases hj : j = i
  · rw [if_pos hj] at h; exact h.elim
  · rw [if_neg hj] at h; exact ⟨j, h⟩

/-- what is one's own is frozen: the heap stays, more of it counts as frozen -/
theorem freeze (h : RepO K B H v o T) (hx : Ex B H) (ho : Own B H T) : ∃ B', Rep K B' v o.d ∧ Ex B B' ∧ Ex B' H ∧ (∀ a u, B' a = some u → B a = some u ∨ T a) ∧ ∀ a, ¬ T a → B' a = B a := by
  cases o with
  | fr d => exact ⟨B, h.1, Ex.refl B, hx, fun a u e => .inl e, fun _ _ => rfl⟩
  | exn a d x => exact ⟨B, .opq v, Ex.refl B, hx, fun a u e => .inl e, fun _ _ => rfl⟩
  | tr t => exact ⟨B, .opq v, Ex.refl B, hx, fun a u e => .inl e, fun _ _ => rfl⟩
  | lst ds =>
    obtain ⟨p, xs, e, hp, hr, hs⟩ := h
    have hb : B p = none := (ho p ((hs p).mpr rfl)).1
    refine ⟨upd B p (.lst xs), ?_, Ex.new hb, fun a u q => ?_, fun a u q => ?_, fun a q => upd_ne fun z => q ((hs a).mpr z)⟩
    · subst e
      exact .lst upd_same (hr.mono (Ex.new hb))
    · by_cases ha : a = p
      · subst ha; rw [upd_same] at q; cases q; exact hp
      · rw [upd_ne ha] at q; exact hx a u q
    · by_cases ha : a = p
      · exact .inr ((hs a).mpr ha)
      · rw [upd_ne ha] at q; exact .inl q
  | dct ks ds =>
    obtain ⟨p, kv, e, hp, hk, hr, hs⟩ := h
    have hb : B p = none := (ho p ((hs p).mpr rfl)).1
    refine ⟨upd B p (.dK kv), ?_, Ex.new hb, fun a u q => ?_, fun a u q => ?_, fun a q => upd_ne fun z => q ((hs a).mpr z)⟩
    · subst e
      exact .dct upd_same hk (hr.mono (Ex.new hb))
    · by_cases ha : a = p
      · subst ha; rw [upd_same] at q; cases q; exact hp
      · rw [upd_ne ha] at q; exact hx a u q
    · by_cases ha : a = p
      · exact .inr ((hs a).mpr ha)
      · rw [upd_ne ha] at q; exact .inl q
  | ins c ns ds =>
    obtain ⟨p, C, dx, fs, e, hp, hc, hk, hr, hs⟩ := h
    have hb : B p = none := (ho p ((hs p).mpr rfl)).1
    refine ⟨upd B p (.ins C dx fs), ?_, Ex.new hb, fun a u q => ?_, fun a u q => ?_, fun a q => upd_ne fun z => q ((hs a).mpr z)⟩
    · subst e
      exact .ins upd_same hc hk (hr.mono (Ex.new hb))
    · by_cases ha : a = p
      · subst ha; rw [upd_same] at q; cases q; exact hp
      · rw [upd_ne ha] at q; exact hx a u q
    · by_cases ha : a = p
      · exact .inr ((hs a).mpr ha)
      · rw [upd_ne ha] at q; exact .inl q
theorem Rp.bgrow (h : Rp K B H σ e S) (hb : Ex B B') (hx : Ex B' H) (hc : ∀ i a, S i a → B' a = none) : Rp K B' H σ e S :=
  ⟨h.len, hx, fun i o ho => by
    obtain ⟨v, h1, h2⟩ := h.rep i o ho
    refine ⟨v, h1, ?_⟩
    cases o with
    | fr d => exact ⟨h2.1.mono hb, h2.2⟩
    | lst ds =>
      obtain ⟨p, xs, e, hp, hr, hs⟩ := h2
      exact ⟨p, xs, e, hp, hr.mono hb, hs⟩
    | dct kvs =>
      obtain ⟨p, kv, e, hp, hk, hr, hs⟩ := h2
      exact ⟨p, kv, e, hp, hk, hr.mono hb, hs⟩
    | ins c ns xs =>
      obtain ⟨p, C, dx, fs, e, hp, hc, hk, hr, hs⟩ := h2
      exact ⟨p, C, dx, fs, e, hp, hc, hk, hr.mono hb, hs⟩
    | exn a d x =>
      obtain ⟨e, ⟨fs, hd, hx⟩, hs⟩ := h2
      exact ⟨e, ⟨fs, hb _ _ hd, hx.mono hb⟩, hs⟩
    | tr t => exact RepT.frame hb h2 fun a o _ q => q, h.dis, fun i a ha => ⟨hc i a ha, (h.own i a ha).2⟩⟩
/-- a value beside the slots frozen -/
theorem Vl.freeze (h : Vl K B H σ e S v o T) : ∃ B', Vl K B' H σ e S v (.fr o.d) noS ∧ Fr B H T B' H noS := by
  obtain ⟨B', r, hb, hx, hc, _⟩ := Dn.freeze h.ro h.rp.ex h.own
  refine ⟨B', .fr (h.rp.bgrow hb hx fun i a ha => ?_) r, ⟨hb, fun _ _ q _ => q, fun _ z => z.elim, fun a u q => (hc a u q).elim .inl fun z => .inr (.inl z), fun _ o q => ⟨o, q⟩⟩⟩
  cases q : B' a with
  | none => rfl
  | some u =>
    rcases hc a u q with z | z
    · rw [(h.rp.own i a ha).1] at z; cases z
    · exact absurd ⟨i, ha⟩ (h.dj a z)
/-- a slot frozen where it stands -/
theorem Rp.freeze (h : Rp K B H σ e S) {i : Nat} (hi : e[i]? = some (some o)) : ∃ B' v, σ[i]? = some (some v) ∧ Rep K B' v o.d ∧
    Rp K B' H σ (e.set i (some (.fr o.d))) (fun j => if j = i then noS else S j) ∧ Fr B H (tot S) B' H (tot (fun j => if j = i then noS else S j)) := by
  obtain ⟨v, hv, ro⟩ := h.rep i o hi
  obtain ⟨B', r, hb, hx, hc, _⟩ := Dn.freeze ro h.ex (h.own i)
  have hl : i < e.length := (List.getElem?_eq_some_iff.mp hi).1
  have hn : ∀ j a, j ≠ i → S j a → B' a = none := fun j a hj ha => by
    cases q : B' a with
    | none => rfl
    | some u =>
      rcases hc a u q with z | z
      · rw [(h.own j a ha).1] at z; cases z
      · exact absurd (h.dis j i a ha z) hj
  refine ⟨B', v, hv, r, ⟨by rw [List.length_set]; exact h.len, hx, fun j o' ho => ?_, fun j k a h1 h2 => ?_, fun j a h1 => ?_⟩, ⟨hb, fun _ _ q _ => q, fun a z => .inl (tot_forget z), fun a u q => (hc a u q).elim .inl fun z => .inr (.inl ⟨i, z⟩), fun _ o q => ⟨o, q⟩⟩⟩
  · by_cases hj : j = i
    · subst hj
      rw [List.getElem?_set_self hl] at ho
      cases ho
      exact ⟨v, hv, by simp only [if_true]; exact ⟨r, fun _ z => z⟩⟩
    · rw [List.getElem?_set_ne (Ne.symm hj)] at ho
      obtain ⟨w, h1, h2⟩ := h.rep j o' ho
      refine ⟨w, h1, ?_⟩
      rw [if_neg hj]
      cases o' with
      | fr d => exact ⟨h2.1.mono hb, h2.2⟩
      | lst ds =>
        obtain ⟨p, xs, e, hp, hr, hs⟩ := h2
        exact ⟨p, xs, e, hp, hr.mono hb, hs⟩
      | dct kvs =>
        obtain ⟨p, kv, e, hp, hk, hr, hs⟩ := h2
        exact ⟨p, kv, e, hp, hk, hr.mono hb, hs⟩
      | ins c ns xs =>
        obtain ⟨p, C, dx, fs, e, hp, hc, hk, hr, hs⟩ := h2
        exact ⟨p, C, dx, fs, e, hp, hc, hk, hr.mono hb, hs⟩
      | exn a d x =>
        obtain ⟨e, ⟨fs, hd, hx⟩, hs⟩ := h2
        exact ⟨e, ⟨fs, hb _ _ hd, hx.mono hb⟩, hs⟩
      | tr t => exact RepT.frame hb h2 fun a o _ q => q
  · by_cases hj : j = i
    · rw [if_pos hj] at h1; exact h1.elim
    · by_cases hk : k = i
      · rw [if_pos hk] at h2; exact h2.elim
      · rw [if_neg hj] at h1; rw [if_neg hk] at h2
        exact h.dis j k a h1 h2
  · by_cases hj : j = i
    · rw [if_pos hj] at h1; exact h1.elim
    · rw [if_neg hj] at h1; exact ⟨hn j a hj h1, (h.own j a h1).2⟩
end
end Dn

namespace Dn
open PySem L2
open Evl (Ex)

/-! ## 3. What is computed -/
inductive Fl where
  | next | ret (o : O) | brk | cnt
/-- an operand: a slot that is only looked at, or a value -/
inductive P where
  | b (i : Nat) | v (f : M O)
def ops : List P → M (List D)
  | [] => M.pure []
  | .b i :: ps => fun e => match e[i]? with
    | some (some _) => (ops ps).bind (fun ds e' => match e'[i]? with
      | some (some o) => some (.ok (o.d :: ds) e')
      | _ => none) e
    | _ => none
  | .v f :: ps => f.bind fun o => (ops ps).bind fun ds => M.pure (o.d :: ds)
/-- an operation on operands -/
def ap (g : List D → Option O) (ps : List P) : M O := (ops ps).bind fun ds e => (g ds).map fun o => .ok o e
def eC (d : D) : M O := M.pure (.fr d)
/-- a name, its value kept from now on by others too -/
def eVar (i : Nat) : M O := fun e => match e[i]? with
  | some (some (.fr d)) => some (.ok (.fr d) e)
  | some (some (.lst ds)) => some (.ok (.fr (.lst ds)) (e.set i (some (.fr (.lst ds)))))
  | some (some (.dct ks ds)) => some (.ok (.fr (.dct ks ds)) (e.set i (some (.fr (.dct ks ds)))))
  | some (some (.ins c ns ds)) => some (.ok (.fr (.ins c ns ds)) (e.set i (some (.fr (.ins c ns ds)))))
  | _ => none
/-- a name that is not looked at again -/
def eMove (i : Nat) : M O := fun e => match e[i]? with
  | some (some (.fr d)) => some (.ok (.fr d) e)
  | some (some o) => some (.ok o (e.set i none))
  | _ => none
/-- a value that is kept by others -/
def eFz (f : M O) : M O := f.bind fun o => M.pure (.fr o.d)
def eIf (c : M Bool) (f g : M O) : M O := c.bind fun b => if b then f else g
def eAnd (f g : M O) : M O := f.bind fun o => match o with
  | .fr (.bl true) => g
  | .fr (.bl false) => M.pure (.fr (.bl false))
  | _ => M.stuck
def eOr (f g : M O) : M O := f.bind fun o => match o with
  | .fr (.bl false) => g
  | .fr (.bl true) => M.pure (.fr (.bl true))
  | _ => M.stuck
def eNot (f : M O) : M O := f.bind fun o => match o with
  | .fr (.bl b) => M.pure (.fr (.bl (!b)))
  | _ => M.stuck
/-- a value that is True or False, as a test -/
def tst (f : M O) : M Bool := f.bind fun o => match o with
  | .fr (.bl b) => M.pure b
  | _ => M.stuck
def cAnd (c d : M Bool) : M Bool := c.bind fun b => if b then d else M.pure false
def cOr (c d : M Bool) : M Bool := c.bind fun b => if b then M.pure true else d
def cNot (c : M Bool) : M Bool := c.bind fun b => M.pure (!b)
/-- the items of a display -/
def items : List (M O) → M (List D)
  | [] => M.pure []
  | f :: fs => f.bind fun o => (items fs).bind fun ds => M.pure (o.d :: ds)
def eTup (fs : List (M O)) : M O := (items fs).bind fun ds => M.pure (.fr (.tup ds))
def eLst (fs : List (M O)) : M O := (items fs).bind fun ds => M.pure (.lst ds)

def sNext : M Fl := M.pure .next
def sSeq (a b : M Fl) : M Fl := a.bind fun f => match f with
  | .next => b
  | .ret o => M.pure (.ret o)
  | .brk => M.pure .brk
  | .cnt => M.pure .cnt
def sIf (c : M Bool) (a b : M Fl) : M Fl := c.bind fun t => if t then a else b
def sRet (f : M O) : M Fl := f.bind fun o => M.pure (.ret o)
def sBrk : M Fl := M.pure .brk
def sCnt : M Fl := M.pure .cnt
def sDrop (f : M O) : M Fl := f.bind fun _ => M.pure .next
def sSet (i : Nat) (f : M O) : M Fl := f.bind fun o e => some (.ok .next (e.set i (some o)))

/-! ## 4. Judgements -/
def Post {α : Type} (r : Option (Ro α)) (ok : α → Sl → Prop) (ex : Exn → Sl → Prop) : Prop := match r with
  | none => False
  | some (.ok a e) => ok a e
  | some (.ex x e) => ex x e
theorem Post.bind {α β : Type} {m : M α} {f : α → M β} {e : Sl} {ok : β → Sl → Prop} {ex : Exn → Sl → Prop} (h : Post (M.bind m f e) ok ex) : Post (m e) (fun a e' => Post (f a e') ok ex) ex := by
  unfold M.bind at h
  cases q : m e with
  | none => rw [q] at h; exact h
  | some r => cases r <;> (rw [q] at h; exact h)
theorem Post.imp {α : Type} {r : Option (Ro α)} {ok ok' : α → Sl → Prop} {ex ex' : Exn → Sl → Prop} (h : Post r ok ex) (h1 : ∀ a e, ok a e → ok' a e) (h2 : ∀ x e, ex x e → ex' x e) : Post r ok' ex' := by
  cases r with
  | none => exact h
  | some r => cases r with
    | ok a e => exact h1 a e h
    | ex x e => exact h2 x e h

/-- the slots ks hold what they held -/
def Kp (ks : List Nat) (σ σ' : St) : Prop := ∀ i ∈ ks, σ'[i]? = σ[i]?
theorem Kp.refl (ks : List Nat) (σ : St) : Kp ks σ σ := fun _ _ => rfl
theorem Kp.trans {ks : List Nat} {σ σ1 σ2 : St} (a : Kp ks σ σ1) (b : Kp ks σ1 σ2) : Kp ks σ σ2 := fun i hi => (b i hi).trans (a i hi)
theorem Kp.set {ks : List Nat} {σ : St} {i : Nat} {v : Option V} (h : i ∉ ks) : Kp ks σ (σ.set i v) := fun j hj => by
  rw [List.getElem?_set_ne]
  intro e
  subst e
  exact h hj

section
variable (K : PySem.W.Frag) (mg : Str → Option Value) (W : WX)
def ExS (ks : List Nat) (B H : Hp) (S : Nat → Addr → Prop) (σ : St) (x : Exn) (e' : Sl) : Prop :=
  ∀ (C d : Addr) (fs : List (Str × V)) (σ' : St) (B' H' : Hp) (S' : Nat → Addr → Prop), mg x.cls = some (.ref C) → Rp K B' H' σ' e' S' → H' d = some (.xd fs) → XF K B' fs x.fs → H d = none → Kp ks σ σ' → Fr B H (tot S) B' H' (tot S') → W (.ref C) (some d) σ' H'
/-- an error out of an expression: the slots are as they were -/
def ExE (B H : Hp) (S : Nat → Addr → Prop) (σ : St) (x : Exn) (e' : Sl) : Prop :=
  ∀ (C d : Addr) (fs : List (Str × V)) (B' H' : Hp) (S' : Nat → Addr → Prop), mg x.cls = some (.ref C) → Rp K B' H' σ e' S' → H' d = some (.xd fs) → XF K B' fs x.fs → H d = none → Fr B H (tot S) B' H' (tot S') → W (.ref C) (some d) σ H'
def tE (f : M O) : TE := fun σ H Q => ∃ B e S, Rp K B H σ e S ∧ Post (f e)
  (fun o e' => ∀ v B' H' S' T, Vl K B' H' σ e' S' v o T → Fr B H (tot S) B' H' (fun a => T a ∨ tot S' a) → Q v H') (fun x e' => ExE K mg W B H S σ x e')
def tT (f : M Bool) : TT := fun σ H Q => ∃ B e S, Rp K B H σ e S ∧ Post (f e)
  (fun b e' => ∀ B' H' S', Rp K B' H' σ e' S' → Fr B H (tot S) B' H' (tot S') → Q b H') (fun x e' => ExE K mg W B H S σ x e')
def tP : P → TE
  | .b i => tVar i
  | .v f => tE K mg W f
def tPs : List P → TA
  | [] => tNil
  | p :: ps => tCons (tP K mg W p) (tPs ps)
def tS (ks : List Nat) (g : M Fl) : TS := fun D σ H => ∃ B e S, Rp K B H σ e S ∧ Post (g e)
  (fun fl e' => match fl with
    | .next => ∀ σ' B' H' S', Rp K B' H' σ' e' S' → Kp ks σ σ' → Fr B H (tot S) B' H' (tot S') → D.nx σ' H'
    | .brk => ∀ σ' B' H' S', Rp K B' H' σ' e' S' → Kp ks σ σ' → Fr B H (tot S) B' H' (tot S') → D.bk σ' H'
    | .cnt => ∀ σ' B' H' S', Rp K B' H' σ' e' S' → Kp ks σ σ' → Fr B H (tot S) B' H' (tot S') → D.ct σ' H'
    | .ret o => ∀ v σ' B' H' S' T, Vl K B' H' σ' e' S' v o T → Kp ks σ σ' → Fr B H (tot S) B' H' (fun a => T a ∨ tot S' a) → D.rt v H') (fun x e' => ExS K mg W ks B H S σ x e')
end

theorem pe_imp {X : Cx} {e : Expr} {t t' : TE} (h : PE X e t) (i : ∀ σ H Q, t' σ H Q → t σ H Q) : PE X e t' := ⟨fun pins s σ H Q I q => h.run pins s σ H Q I (i σ H Q q)⟩
theorem pt_imp {X : Cx} {e : Expr} {t t' : TT} (h : PT X e t) (i : ∀ σ H Q, t' σ H Q → t σ H Q) : PT X e t' := ⟨fun pins s σ H Q I q => h.run pins s σ H Q I (i σ H Q q)⟩
theorem pw_imp {X : Cx} {e : Expr} {t t' : TT} (h : PW X e t) (i : ∀ σ H Q, t' σ H Q → t σ H Q) : PW X e t' := ⟨fun w pins s σ H Q I q => h.run w pins s σ H Q I (i σ H Q q)⟩
theorem pa_imp {X : Cx} {e : List Expr} {t t' : TA} (h : PA X e t) (i : ∀ σ H Q, t' σ H Q → t σ H Q) : PA X e t' := ⟨fun p pins s σ H Q I q => h.run p pins s σ H Q I (i σ H Q q)⟩
theorem ps_imp {X : Cx} {e : Stmt} {t t' : TS} (h : PS X e t) (i : ∀ D σ H, t' D σ H → t D σ H) : PS X e t' := ⟨fun pins s σ H D I q => h.run pins s σ H D I (i D σ H q)⟩
theorem pss_imp {X : Cx} {e : List Stmt} {t t' : TS} (h : PSs X e t) (i : ∀ D σ H, t' D σ H → t D σ H) : PSs X e t' := ⟨fun pins s σ H D I q => h.run pins s σ H D I (i D σ H q)⟩

section
variable {K : PySem.W.Frag} {mg : Str → Option Value} {W : WX} {B B' H H' : Hp} {v x y : V} {o : O} {d : D} {σ : St} {e e' : Sl} {S S' : Nat → Addr → Prop} {T T' : Addr → Prop} {ks : List Nat}
theorem ExS.step {σ1 : St} {x : Exn} (h : ExS K mg W ks B H S σ x e') (k : Kp ks σ σ1) (f : Fr B H (tot S) B' H' (tot S')) : ExS K mg W ks B' H' S' σ1 x e' :=
  fun C d fs σ' B2 H2 S2 h1 h2 h3 h4 hn h5 h6 => h C d fs σ' B2 H2 S2 h1 h2 h3 h4 (f.back hn) (k.trans h5) (f.trans h6)

theorem ExE.step {x : Exn} (h : ExE K mg W B H S σ x e') (f : Fr B H (tot S) B' H' (tot S')) : ExE K mg W B' H' S' σ x e' :=
  fun C d fs B2 H2 S2 h1 h2 h3 h4 hn h6 => h C d fs B2 H2 S2 h1 h2 h3 h4 (f.back hn) (f.trans h6)
theorem ExS.toE {x : Exn} (h : ExS K mg W ks B H S σ x e') : ExE K mg W B H S σ x e' := fun C d fs B2 H2 S2 h1 h2 h3 h4 hn h6 => h C d fs σ B2 H2 S2 h1 h2 h3 h4 hn (Kp.refl _ _) h6
/-- a value that is read: its items are frozen -/
def Rd (K : PySem.W.Frag) (B H : Hp) (v : V) : D → Prop
  | .lst ds => ∃ a xs, v = .ref a ∧ H a = some (.lst xs) ∧ RepL K B xs ds
  | .dct ks ds => ∃ a kv, v = .ref a ∧ H a = some (.dK kv) ∧ kv.map (·.1) = ks ∧ RepL K B (kv.map (·.2)) ds
  | .ins c ns ds => ∃ a C dx fs, v = .ref a ∧ H a = some (.ins C dx fs) ∧ ClsN K c C ∧ fs.map (·.1) = ns ∧ RepL K B (fs.map (·.2)) ds
  | d => Rep K B v d
theorem Rep.rd (h : Rep K B v d) (hx : Ex B H) : Rd K B H v d := by
  cases h with
  | lst h hs => exact ⟨_, _, rfl, hx _ _ h, hs⟩
  | non => exact .non
  | bl b => exact .bl b
  | int i => exact .int i
  | str x => exact .str x
  | tup h hs => exact .tup h hs
  | scr h => exact .scr h
  | opq v => exact .opq v
  | dct h hk hs => exact ⟨_, _, rfl, hx _ _ h, hk, hs⟩
  | ins h hc hk hs => exact ⟨_, _, _, _, rfl, hx _ _ h, hc, hk, hs⟩
theorem RepO.rd (h : RepO K B H v o T) (hx : Ex B H) : Rd K B H v o.d := by
  cases o with
  | fr d => exact h.1.rd hx
  | lst ds =>
    obtain ⟨p, xs, e, hp, hr, hs⟩ := h
    exact ⟨p, xs, e, hp, hr⟩
  | dct ks xs =>
    obtain ⟨p, kv, e, hp, hk, hr, hs⟩ := h
    exact ⟨p, kv, e, hp, hk, hr⟩
  | ins c ns xs =>
    obtain ⟨p, C, dx, fs, e, hp, hc, hk, hr, hs⟩ := h
    exact ⟨p, C, dx, fs, e, hp, hc, hk, hr⟩
  | exn a d x => exact .opq v
  | tr t => exact .opq v
theorem Rd.rep (h : Rd K B H v d) (hx : Ex B H) : Rep K H v d := by
  cases d with
  | lst ds =>
    obtain ⟨a, xs, rfl, h1, h2⟩ := h
    exact .lst h1 (h2.mono hx)
  | dct ks ds =>
    obtain ⟨a, kv, rfl, h1, hk, h2⟩ := h
    exact .dct h1 hk (h2.mono hx)
  | ins c ns ds =>
    obtain ⟨a, C, dx, fs, rfl, h1, hc, hk, h2⟩ := h
    exact .ins h1 hc hk (h2.mono hx)
  | non => exact Rep.mono hx h
  | bl b => exact Rep.mono hx h
  | int i => exact Rep.mono hx h
  | str x => exact Rep.mono hx h
  | tup ds => exact Rep.mono hx h
  | scr ns => exact Rep.mono hx h
  | opq => exact .opq v
theorem Rd.grow (h : Rd K B H v d) (g : Gr B H B' H') : Rd K B' H' v d := by
  cases d with
  | lst ds =>
    obtain ⟨a, xs, rfl, h1, h2⟩ := h
    exact ⟨a, xs, rfl, g.h _ _ h1, h2.mono g.b⟩
  | dct ks ds =>
    obtain ⟨a, kv, rfl, h1, hk, h2⟩ := h
    exact ⟨a, kv, rfl, g.h _ _ h1, hk, h2.mono g.b⟩
  | ins c ns ds =>
    obtain ⟨a, C, dx, fs, rfl, h1, hc, hk, h2⟩ := h
    exact ⟨a, C, dx, fs, rfl, g.h _ _ h1, hc, hk, h2.mono g.b⟩
  | non => exact Rep.mono g.b h
  | bl b => exact Rep.mono g.b h
  | int i => exact Rep.mono g.b h
  | str x => exact Rep.mono g.b h
  | tup ds => exact Rep.mono g.b h
  | scr ns => exact Rep.mono g.b h
  | opq => exact .opq v
inductive RdL (K : PySem.W.Frag) (B H : Hp) : List V → List D → Prop
  | nil : RdL K B H [] []
  | cons {v : V} {vs : List V} {d : D} {ds : List D} : Rd K B H v d → RdL K B H vs ds → RdL K B H (v :: vs) (d :: ds)

/-- the operands, from the left -/
theorem ops_run : ∀ (ps : List P) {B H : Hp} {e : Sl} {S : Nat → Addr → Prop} (Q : List V → Hp → Prop), Rp K B H σ e S →
    Post (ops ps e) (fun ds e' => ∀ vs B' H' S', Rp K B' H' σ e' S' → RdL K B' H' vs ds → Fr B H (tot S) B' H' (tot S') → Q vs H') (fun x e' => ExE K mg W B H S σ x e') → tPs K mg W ps σ H Q
  | [], B, H, e, S, Q, r, h => h [] B H S r .nil (Fr.refl _ _ _)
  | .b i :: ps, B, H, e, S, Q, r, h => by
    unfold ops at h
    cases q : e[i]? with
    | none => rw [q] at h; exact h.elim
    | some u =>
      cases u with
      | none => rw [q] at h; exact h.elim
      | some o0 =>
        rw [q] at h
        obtain ⟨v, hv, _⟩ := r.rep i o0 q
        refine ⟨v, hv, ops_run ps _ r (h.bind.imp (fun ds e' h vs B' H' S' r' rl f => ?_) fun _ _ z => z)⟩
        cases q' : e'[i]? with
        | none => rw [q'] at h; exact h.elim
        | some u' =>
          cases u' with
          | none => rw [q'] at h; exact h.elim
          | some o =>
            rw [q'] at h
            obtain ⟨v', hv', ro⟩ := r'.rep i o q'
            rw [hv] at hv'; cases hv'
            exact h _ B' H' S' r' (.cons (ro.rd r'.ex) rl) f
  | .v f :: ps, B, H, e, S, Q, r, h => by
    unfold ops at h
    refine ⟨B, e, S, r, h.bind.imp (fun o e1 h v B1 H1 S1 T vl f1 => ?_) fun _ _ z => z⟩
    have f1' : Fr B H (tot S) B1 H1 (tot S1) := f1.imp (fun _ z => z) fun _ z => .inr z
    refine ops_run ps _ vl.rp (h.bind.imp (fun ds e' h vs B' H' S' r' rl f2 => ?_) fun x e' z => z.step f1')
    have h' : ∀ vs B' H' S', Rp K B' H' σ e' S' → RdL K B' H' vs (o.d :: ds) → Fr B H (tot S) B' H' (tot S') → Q vs H' := h
    obtain ⟨ro, _, _⟩ := vl.ro.frame vl.own vl.dj f2
    exact h' _ B' H' S' r' (.cons (ro.rd r'.ex) rl) (f1'.trans f2)

/-- what an operation gives: the heap grows, the result may be a new list of one's own -/
def Giv (K : PySem.W.Frag) (B H : Hp) (o : O) (Q : VK) : Prop := ∀ v B' H' T, Gr B H B' H' → RepO K B' H' v o T → (∀ a, T a → H a = none) → Own B' H' T → Q v H'
theorem Giv.fr {Q : VK} (h : Giv K B H (.fr d) Q) (hx : Ex B H) (r : Rep K B v d) : Q v H := h v B H noS (Gr.refl hx) ⟨r, fun _ z => z⟩ (fun _ z => z.elim) own_no
theorem Giv.newL {Q : VK} {xs : List V} {ds : List D} (h : Giv K B H (.lst ds) Q) (hx : Ex B H) (r : RepL K B xs ds) {p : Addr} (hp : H p = none) : Q (.ref p) (upd H p (.lst xs)) := by
  have g := Gr.own hx hp (.lst xs)
  refine h (.ref p) B _ (fun a => a = p) g ⟨p, xs, rfl, upd_same, r, fun a => Iff.rfl⟩ (fun a e => by rw [e]; exact hp) fun a e => ?_
  subst e
  refine ⟨?_, _, upd_same⟩
  cases q : B a with
  | none => rfl
  | some u => have := hx a u q; rw [hp] at this; cases this
theorem Giv.newT {Q : VK} {xs : List V} {ds : List D} (h : Giv K B H (.fr (.tup ds)) Q) (hx : Ex B H) (r : RepL K B xs ds) {p : Addr} (hp : H p = none) : Q (.ref p) (upd H p (.tup xs)) := by
  have g := Gr.new hx hp (.tup xs)
  exact h (.ref p) (upd B p (.tup xs)) _ noS g ⟨.tup (.inl upd_same) (r.mono g.b), fun _ z => z⟩ (fun _ z => z.elim) own_no
/-- a list that is new where it is kept by others at once -/
theorem Giv.newF {Q : VK} {xs : List V} {ds : List D} (h : Giv K B H (.fr (.lst ds)) Q) (hx : Ex B H) (r : RepL K B xs ds) {p : Addr} (hp : H p = none) : Q (.ref p) (upd H p (.lst xs)) := by
  have g := Gr.new hx hp (.lst xs)
  exact h (.ref p) (upd B p (.lst xs)) _ noS g ⟨.lst upd_same (r.mono g.b), fun _ z => z⟩ (fun _ z => z.elim) own_no
/-- an operation's outcome beside the slots -/
theorem Rp.giv {Q : VK} (r : Rp K B H σ e S) (h : ∀ v B' H' S' T, Vl K B' H' σ e S' v o T → Fr B H (tot S) B' H' (fun a => T a ∨ tot S' a) → Q v H') : Giv K B H o Q :=
  fun v B' H' T g ro hn ow => h v B' H' S T ⟨r.grow g, ro, ow, fun a ha ⟨i, hi⟩ => by
    obtain ⟨_, u, hu⟩ := r.own i a hi
    rw [hn a ha] at hu; cases hu⟩ ⟨g.b, fun a o q _ => g.h a o q, fun a z => z.elim (fun z => .inr (hn a z)) .inl, fun a u q => (g.c a u q).elim .inl fun z => .inr (.inr z), fun a u q => ⟨u, g.h a u q⟩⟩

def Snd2 (K : PySem.W.Frag) (r : R2) (g : List D → Option O) : Prop := ∀ (B H : Hp) (x y : V) (a b : D) (o : O), Ex B H → Rd K B H x a → Rd K B H y b → g [a, b] = some o → ∀ Q : VK, Giv K B H o Q → r x y H Q
def Snd1 (K : PySem.W.Frag) (r : V → Hp → VK → Prop) (g : List D → Option O) : Prop := ∀ (B H : Hp) (x : V) (a : D) (o : O), Ex B H → Rd K B H x a → g [a] = some o → ∀ Q : VK, Giv K B H o Q → r x H Q
def SndN (K : PySem.W.Frag) (r : List V → Hp → VK → Prop) (g : List D → Option O) : Prop := ∀ (B H : Hp) (vs : List V) (ds : List D) (o : O), Ex B H → RdL K B H vs ds → g ds = some o → ∀ Q : VK, Giv K B H o Q → r vs H Q

/-- the end of an operation's reading -/
theorem ap_end {g : List D → Option O} {ds : List D} {okP : O → Sl → Prop} {exP : Exn → Sl → Prop} (h : Post ((g ds).map fun o => Ro.ok o e') okP exP) : ∃ o, g ds = some o ∧ okP o e' := by
  cases q : g ds with
  | none => rw [q] at h; exact h.elim
  | some o => rw [q] at h; exact ⟨o, rfl, h⟩
theorem ap2_run {r : R2} {g : List D → Option O} {p q : P} (hs : Snd2 K r g) (Q : VK) (h : tE K mg W (ap g [p, q]) σ H Q) : tOp r (tP K mg W p) (tP K mg W q) σ H Q := by
  obtain ⟨B, e, S, rp, h⟩ := h
  have key := ops_run (K := K) (mg := mg) (W := W) (σ := σ) [p, q] (fun vs H' => ∀ x y, vs = [x, y] → r x y H' Q) rp (h.bind.imp (fun ds e' h vs B' H' S' r' rl f x y ev => ?_) fun _ _ z => z)
  · show tP K mg W p σ H fun x H1 => tP K mg W q σ H1 fun y H2 => r x y H2 Q
    have key' : tP K mg W p σ H fun x H1 => tP K mg W q σ H1 fun y H2 => ∀ x' y', [x, y] = [x', y'] → r x' y' H2 Q := key
    have mono : ∀ (p : P) (σ : St) (H : Hp) (Q Q' : VK), (∀ v H, Q v H → Q' v H) → tP K mg W p σ H Q → tP K mg W p σ H Q' := fun p σ H Q Q' hq t => by
      cases p with
      | b i => obtain ⟨v, e, q⟩ := t; exact ⟨v, e, hq _ _ q⟩
      | v f => obtain ⟨B, e, S, r, t⟩ := t; exact ⟨B, e, S, r, t.imp (fun o e' h v B' H' S' T vl f => hq _ _ (h v B' H' S' T vl f)) fun _ _ z => z⟩
    exact mono _ _ _ _ _ (fun x H1 t => mono _ _ _ _ _ (fun y H2 t => t x y rfl) t) key'
  · subst ev
    obtain ⟨o, ho, h2⟩ := ap_end h
    cases rl with
    | cons h1 rl =>
      cases rl with
      | cons k2 rl =>
        cases rl
        exact hs B' H' x y _ _ o r'.ex h1 k2 ho Q (r'.giv fun v B2 H2 S2 T vl f2 => h2 v B2 H2 S2 T vl (f.trans f2))
theorem ap1_run {r : V → Hp → VK → Prop} {g : List D → Option O} {p : P} (hs : Snd1 K r g) (Q : VK) (h : tE K mg W (ap g [p]) σ H Q) : tP K mg W p σ H fun x H1 => r x H1 Q := by
  obtain ⟨B, e, S, rp, h⟩ := h
  have key := ops_run (K := K) (mg := mg) (W := W) (σ := σ) [p] (fun vs H' => ∀ x, vs = [x] → r x H' Q) rp (h.bind.imp (fun ds e' h vs B' H' S' r' rl f x ev => ?_) fun _ _ z => z)
  · have key' : tP K mg W p σ H fun x H1 => ∀ x', [x] = [x'] → r x' H1 Q := key
    have mono : ∀ (p : P) (σ : St) (H : Hp) (Q Q' : VK), (∀ v H, Q v H → Q' v H) → tP K mg W p σ H Q → tP K mg W p σ H Q' := fun p σ H Q Q' hq t => by
      cases p with
      | b i => obtain ⟨v, e, q⟩ := t; exact ⟨v, e, hq _ _ q⟩
      | v f => obtain ⟨B, e, S, r, t⟩ := t; exact ⟨B, e, S, r, t.imp (fun o e' h v B' H' S' T vl f => hq _ _ (h v B' H' S' T vl f)) fun _ _ z => z⟩
    exact mono _ _ _ _ _ (fun x H1 t => t x rfl) key'
  · subst ev
    obtain ⟨o, ho, h2⟩ := ap_end h
    cases rl with
    | cons h1 rl =>
      cases rl
      exact hs B' H' x _ o r'.ex h1 ho Q (r'.giv fun v B2 H2 S2 T vl f2 => h2 v B2 H2 S2 T vl (f.trans f2))
theorem apN_run {r : List V → Hp → VK → Prop} {g : List D → Option O} {ps : List P} (hs : SndN K r g) (Q : VK) (h : tE K mg W (ap g ps) σ H Q) : tPs K mg W ps σ H fun vs H1 => r vs H1 Q := by
  obtain ⟨B, e, S, rp, h⟩ := h
  refine ops_run (K := K) (mg := mg) (W := W) (σ := σ) ps _ rp (h.bind.imp (fun ds e' h vs B' H' S' r' rl f => ?_) fun _ _ z => z)
  obtain ⟨o, ho, h2⟩ := ap_end h
  exact hs B' H' vs _ o r'.ex rl ho Q (r'.giv fun v B2 H2 S2 T vl f2 => h2 v B2 H2 S2 T vl (f.trans f2))
end

/-! ## 5. Rules: names, constants, operations, tests -/
section
variable {X : Cx} {W : WX} {e a b c : Expr} {pos : Pos} {f g : M O} {p q : P} {op : Operator}
theorem d_var {i : Nat} {x : Str} (hv : PE X (.Name x pos) (tVar i)) : PE X (.Name x pos) (tE X.K X.mg W (eVar i)) := pe_imp hv fun σ H Q h => by
  obtain ⟨B, e, S, r, h⟩ := h
  unfold eVar at h
  cases q : e[i]? with
  | none => rw [q] at h; exact h.elim
  | some u =>
    cases u with
    | none => rw [q] at h; exact h.elim
    | some o =>
      rw [q] at h
      cases o with
      | fr d =>
        obtain ⟨v, hv, ro⟩ := r.rep i _ q
        exact ⟨v, hv, h v B H S noS (.fr r ro.1) ((Fr.refl _ _ _).imp (fun _ z => z) fun a z => z.elim (fun z => z.elim) id)⟩
      | lst ds =>
        obtain ⟨B', v, hv, rv, r', f⟩ := r.freeze q
        exact ⟨v, hv, h v B' H _ noS (.fr r' rv) (f.imp (fun _ z => z) fun a z => z.elim (fun z => z.elim) id)⟩
      | dct ks ds =>
        obtain ⟨B', v, hv, rv, r', f⟩ := r.freeze q
        exact ⟨v, hv, h v B' H _ noS (.fr r' rv) (f.imp (fun _ z => z) fun a z => z.elim (fun z => z.elim) id)⟩
      | ins c ns ds =>
        obtain ⟨B', v, hv, rv, r', f⟩ := r.freeze q
        exact ⟨v, hv, h v B' H _ noS (.fr r' rv) (f.imp (fun _ z => z) fun a z => z.elim (fun z => z.elim) id)⟩
      | exn _ _ _ => exact h.elim
      | tr _ => exact h.elim
theorem d_move {i : Nat} {x : Str} (hv : PE X (.Name x pos) (tVar i)) : PE X (.Name x pos) (tE X.K X.mg W (eMove i)) := pe_imp hv fun σ H Q h => by
  obtain ⟨B, e, S, r, h⟩ := h
  unfold eMove at h
  cases q : e[i]? with
  | none => rw [q] at h; exact h.elim
  | some u =>
    cases u with
    | none => rw [q] at h; exact h.elim
    | some o =>
      rw [q] at h
      obtain ⟨v, hv, ro⟩ := r.rep i _ q
      cases o with
      | fr d => exact ⟨v, hv, h v B H S noS (.fr r ro.1) ((Fr.refl _ _ _).imp (fun _ z => z) fun a z => z.elim (fun z => z.elim) id)⟩
      | lst ds =>
        refine ⟨v, hv, h v B H (fun j => if j = i then noS else S j) (S i) ⟨r.forget i, ro, r.own i, fun a h1 h2 => ?_⟩ ((Fr.refl _ _ _).imp (fun _ z => z) fun a z => z.elim (fun z => ⟨i, z⟩) tot_forget)⟩
        obtain ⟨j, h2⟩ := h2
        by_cases hj : j = i
        · rw [if_pos hj] at h2; exact h2
        · rw [if_neg hj] at h2; exact hj (r.dis j i a h2 h1)
      | dct ds =>
        refine ⟨v, hv, h v B H (fun j => if j = i then noS else S j) (S i) ⟨r.forget i, ro, r.own i, fun a h1 h2 => ?_⟩ ((Fr.refl _ _ _).imp (fun _ z => z) fun a z => z.elim (fun z => ⟨i, z⟩) tot_forget)⟩
        obtain ⟨j, h2⟩ := h2
        by_cases hj : j = i
        · rw [if_pos hj] at h2; exact h2
        · rw [if_neg hj] at h2; exact hj (r.dis j i a h2 h1)
      | ins c ns ds =>
        refine ⟨v, hv, h v B H (fun j => if j = i then noS else S j) (S i) ⟨r.forget i, ro, r.own i, fun a h1 h2 => ?_⟩ ((Fr.refl _ _ _).imp (fun _ z => z) fun a z => z.elim (fun z => ⟨i, z⟩) tot_forget)⟩
        obtain ⟨j, h2⟩ := h2
        by_cases hj : j = i
        · rw [if_pos hj] at h2; exact h2
        · rw [if_neg hj] at h2; exact hj (r.dis j i a h2 h1)
      | exn _ _ _ =>
        refine ⟨v, hv, h v B H (fun j => if j = i then noS else S j) (S i) ⟨r.forget i, ro, r.own i, fun a h1 h2 => ?_⟩ ((Fr.refl _ _ _).imp (fun _ z => z) fun a z => z.elim (fun z => ⟨i, z⟩) tot_forget)⟩
        obtain ⟨j, h2⟩ := h2
        by_cases hj : j = i
        · rw [if_pos hj] at h2; exact h2
        · rw [if_neg hj] at h2; exact hj (r.dis j i a h2 h1)
      | tr t =>
        refine ⟨v, hv, h v B H (fun j => if j = i then noS else S j) (S i) ⟨r.forget i, ro, r.own i, fun a h1 h2 => ?_⟩ ((Fr.refl _ _ _).imp (fun _ z => z) fun a z => z.elim (fun z => ⟨i, z⟩) tot_forget)⟩
        obtain ⟨j, h2⟩ := h2
        by_cases hj : j = i
        · rw [if_pos hj] at h2; exact h2
        · rw [if_neg hj] at h2; exact hj (r.dis j i a h2 h1)
/-- a written value, a constant of the module: v holds d whatever the heap -/
theorem d_c {v : V} {d : D} (hv : PE X e (tC v)) (hr : ∀ B, Rep X.K B v d) : PE X e (tE X.K X.mg W (eC d)) := pe_imp hv fun σ H Q h => by
  obtain ⟨B, e, S, r, h⟩ := h
  exact h v B H S noS (.fr r (hr B)) ((Fr.refl _ _ _).imp (fun _ z => z) fun a z => z.elim (fun z => z.elim) id)
theorem d_int {i j} : PE X (.Constant (.int i) j pos) (tE X.K X.mg W (eC (.int i))) := d_c pe_int fun _ => .int _
theorem d_bl {b j} : PE X (.Constant (.bool b) j pos) (tE X.K X.mg W (eC (.bl b))) := d_c pe_bl fun _ => .bl _
theorem d_non {j} : PE X (.Constant .none j pos) (tE X.K X.mg W (eC .non)) := d_c pe_non fun _ => .non
theorem d_str {x j} : PE X (.Constant (.str x) j pos) (tE X.K X.mg W (eC (.str x))) := d_c pe_str fun _ => .str _
theorem d_fz (h : PE X e (tE X.K X.mg W f)) : PE X e (tE X.K X.mg W (eFz f)) := pe_imp h fun σ H Q h => by
  obtain ⟨B, e, S, r, h⟩ := h
  refine ⟨B, e, S, r, h.bind.imp (fun o e' h v B' H' S' T vl f => ?_) fun _ _ z => z⟩
  obtain ⟨B2, vl2, f2⟩ := vl.freeze
  refine h v B2 H' S' noS vl2 (f.trans ⟨f2.b, fun a o q _ => q, fun a z => z.elim (fun z => z.elim) fun z => .inl (.inr z), fun a u q => (f2.c a u q).elim .inl fun z => .inr (z.elim (fun z => .inl (.inl z)) .inr), fun a o q => ⟨o, q⟩⟩)
/-- operands -/
theorem p_b {i : Nat} {x : Str} (hv : PE X (.Name x pos) (tVar i)) : PE X (.Name x pos) (tP X.K X.mg W (.b i)) := hv
theorem p_v (h : PE X e (tE X.K X.mg W f)) : PE X e (tP X.K X.mg W (.v f)) := h
theorem pa_n : PA X [] (tPs X.K X.mg W []) := pa_nil
theorem pa_c {es : List Expr} {ps : List P} (h : PE X e (tP X.K X.mg W p)) (hr : PA X es (tPs X.K X.mg W ps)) (hs : starEach (e :: es) X.env = (false, eval e X.env) :: starEach es X.env := by rfl) : PA X (e :: es) (tPs X.K X.mg W (p :: ps)) := pa_cons h hr hs

theorem d_op {r : R2} {G : List D → Option O} (ho : OpR X (binaryOp op) r) (hs : Snd2 X.K r G) (ha : PE X a (tP X.K X.mg W p)) (hb : PE X b (tP X.K X.mg W q)) : PE X (.BinOp a op b pos) (tE X.K X.mg W (ap G [p, q])) :=
  pe_imp (pe_op ho ha hb) fun _ _ _ h => ap2_run hs _ h
theorem d_un {r : V → Hp → VK → Prop} {G : List D → Option O} {op : UnaryOp} (ho : UnR X (unaryOp op) r) (hs : Snd1 X.K r G) (ha : PE X a (tP X.K X.mg W p)) : PE X (.UnaryOp op a pos) (tE X.K X.mg W (ap G [p])) :=
  pe_imp (pe_un ho ha) fun _ _ _ h => ap1_run hs _ h
theorem d_cmp {r : R2} {G : List D → Option O} {op : CmpOp} (ho : OpR X (compareOp op) r) (hs : Snd2 X.K r G) (ha : PE X a (tP X.K X.mg W p)) (hb : PE X b (tP X.K X.mg W q)) (hm : behindInMarks op b = false) : PE X (.Compare a [op] [b] pos) (tE X.K X.mg W (ap G [p, q])) :=
  pe_imp (pe_cmpR ho ha hb hm) fun _ _ _ h => ap2_run hs _ h
theorem d_ix {r : R2} {G : List D → Option O} (ho : IxR X r) (hs : Snd2 X.K r G) (ha : PE X a (tP X.K X.mg W p)) (hb : PE X b (tP X.K X.mg W q)) (hp : PlainIx b) : PE X (.Subscript a b pos) (tE X.K X.mg W (ap G [p, q])) :=
  pe_imp (pe_ix ho ha hb hp) fun _ _ _ h => ap2_run hs _ h
theorem d_cb {r : List V → Hp → VK → Prop} {G : List D → Option O} {x : Str} {id : String} {p1 : Pos} {e : Expr} {es : List Expr} {ps : List P} (hc : CallR X (.builtin id) r) (hs : SndN X.K r G) (hg : Gl X x) (hm : X.mg x = none) (hv : bootBuiltins x = some (.builtin id)) (ha : PA X (e :: es) (tPs X.K X.mg W ps)) (hn : x ≠ "__name__" := by decide) (hdb : (x == ("__debug__" : Str)) = false := by decide)
    (he : starEach (e :: es) X.env = (false, eval e X.env) :: starEach es X.env := by rfl) (hpl : (backTo pos (starEach es X.env)).any (·.1) = false := by rfl) : PE X (.Call (.Name x p1) (e :: es) [] pos) (tE X.K X.mg W (ap G ps)) :=
  pe_imp (pe_callB hc hg hm hv ha hn hdb he hpl) fun _ _ _ h => apN_run hs _ h
theorem d_ct {r : List V → Hp → VK → Prop} {G : List D → Option O} {x : Str} {id : String} {p1 : Pos} {e : Expr} {es : List Expr} {ps : List P} (hc : CallR X (.type id) r) (hs : SndN X.K r G) (hg : Gl X x) (hm : X.mg x = none) (hv : bootBuiltins x = some (.type id)) (ha : PA X (e :: es) (tPs X.K X.mg W ps)) (hn : x ≠ "__name__" := by decide) (hdb : (x == ("__debug__" : Str)) = false := by decide)
    (he : starEach (e :: es) X.env = (false, eval e X.env) :: starEach es X.env := by rfl) (hpl : (backTo pos (starEach es X.env)).any (·.1) = false := by rfl) : PE X (.Call (.Name x p1) (e :: es) [] pos) (tE X.K X.mg W (ap G ps)) :=
  pe_imp (pe_callTy hc hg hm hv ha hn hdb he hpl) fun _ _ _ h => apN_run hs _ h

/-! ### tests -/
theorem c_tst (h : PE X e (tE X.K X.mg W f)) (he : ∀ whole, isTrue e X.env whole = (do let v ← whole; standAt e.pos; holding [v] (truthy v)) := by intro _; rfl) : PT X e (tT X.K X.mg W (tst f)) := pt_imp (pt_val h he) fun σ H Q h => by
  obtain ⟨B, e, S, r, h⟩ := h
  refine ⟨B, e, S, r, h.bind.imp (fun o e' h v B' H' S' T vl f => ?_) fun _ _ z => z⟩
  cases o with
  | lst ds => exact h.elim
  | dct _ _ => exact h.elim
  | ins _ _ _ => exact h.elim
  | exn _ _ _ => exact h.elim
  | tr _ => exact h.elim
  | fr d =>
    cases d with
    | bl b =>
      have hr := vl.ro.1
      cases hr
      exact ⟨b, rfl, h B' H' S' vl.rp (f.imp (fun _ z => z) fun _ z => .inr z)⟩
    | _ => exact h.elim
theorem c_cmp {r : R2} {G : List D → Option O} {op : CmpOp} (ho : OpR X (compareOp op) r) (hs : Snd2 X.K r G) (ha : PE X a (tP X.K X.mg W p)) (hb : PE X b (tP X.K X.mg W q)) (hm : behindInMarks op b = false) : PT X (.Compare a [op] [b] pos) (tT X.K X.mg W (tst (ap G [p, q]))) :=
  pt_imp (pt_cmpR ho ha hb hm) fun σ H Q h => by
    obtain ⟨B, e, S, r, h⟩ := h
    refine ap2_run hs (mg := X.mg) (W := W) _ ⟨B, e, S, r, h.bind.imp (fun o e' h v B' H' S' T vl f => ?_) fun _ _ z => z⟩
    cases o with
    | lst ds => exact h.elim
    | dct _ _ => exact h.elim
    | ins _ _ _ => exact h.elim
    | exn _ _ _ => exact h.elim
    | tr _ => exact h.elim
    | fr d =>
      cases d with
      | bl b =>
        have hr := vl.ro.1
        cases hr
        exact ⟨b, rfl, h B' H' S' vl.rp (f.imp (fun _ z => z) fun _ z => .inr z)⟩
      | _ => exact h.elim
theorem c_not {t : M Bool} (h : PT X e (tT X.K X.mg W t)) : PT X (.UnaryOp .Not e pos) (tT X.K X.mg W (cNot t)) := pt_imp (pt_not h) fun σ H Q h => by
  obtain ⟨B, e, S, r, h⟩ := h
  exact ⟨B, e, S, r, h.bind.imp (fun b e' h B' H' S' r' f => h B' H' S' r' f) fun _ _ z => z⟩
theorem w_one {t : M Bool} {bop : BoolOp} (h : PT X e (tT X.K X.mg W t)) : PW X (.BoolOp bop [e] pos) (tT X.K X.mg W t) := by
  cases bop with
  | And => exact pw_and1 h
  | Or => exact pw_or1 h
theorem w_and {t u : M Bool} {rest : List Expr} (ha : PT X a (tT X.K X.mg W t)) (hb : PW X (.BoolOp .And (b :: rest) pos) (tT X.K X.mg W u)) : PW X (.BoolOp .And (a :: b :: rest) pos) (tT X.K X.mg W (cAnd t u)) := pw_imp (pw_and ha hb) fun σ H Q h => by
  obtain ⟨B, e, S, r, h⟩ := h
  refine ⟨B, e, S, r, h.bind.imp (fun b e' h B' H' S' r' f => ?_) fun _ _ z => z⟩
  cases b with
  | true => exact iteT ⟨B', e', S', r', (show Post (u e') _ _ from h).imp (fun b e2 h B2 H2 S2 r2 f2 => h B2 H2 S2 r2 (f.trans f2)) fun _ _ z => z.step f⟩
  | false => exact iteF (h B' H' S' r' f)
theorem w_or {t u : M Bool} {rest : List Expr} (ha : PT X a (tT X.K X.mg W t)) (hb : PW X (.BoolOp .Or (b :: rest) pos) (tT X.K X.mg W u)) : PW X (.BoolOp .Or (a :: b :: rest) pos) (tT X.K X.mg W (cOr t u)) := pw_imp (pw_or ha hb) fun σ H Q h => by
  obtain ⟨B, e, S, r, h⟩ := h
  refine ⟨B, e, S, r, h.bind.imp (fun b e' h B' H' S' r' f => ?_) fun _ _ z => z⟩
  cases b with
  | false => exact iteF ⟨B', e', S', r', (show Post (u e') _ _ from h).imp (fun b e2 h B2 H2 S2 r2 f2 => h B2 H2 S2 r2 (f.trans f2)) fun _ _ z => z.step f⟩
  | true => exact iteT (h B' H' S' r' f)
theorem c_w {t : M Bool} (h : PW X e (tT X.K X.mg W t)) : PT X e (tT X.K X.mg W t) := h.pt

/-! ### and, or, not as values -/
theorem d_one {bop : BoolOp} (h : PE X e (tE X.K X.mg W f)) : PE X (.BoolOp bop [e] pos) (tE X.K X.mg W f) := pe_one h
theorem d_and {rest : List Expr} (ha : PE X a (tE X.K X.mg W f)) (hb : PE X (.BoolOp .And (b :: rest) pos) (tE X.K X.mg W g)) : PE X (.BoolOp .And (a :: b :: rest) pos) (tE X.K X.mg W (eAnd f g)) := pe_imp (pe_and ha hb) fun σ H Q h => by
  obtain ⟨B, e, S, r, h⟩ := h
  refine ⟨B, e, S, r, h.bind.imp (fun o e' h v B' H' S' T vl f => ?_) fun _ _ z => z⟩
  have f' := f.imp (fun _ z => z) (fun a (z : tot S' a) => .inr z)
  cases o with
  | lst ds => exact h.elim
  | dct _ _ => exact h.elim
  | ins _ _ _ => exact h.elim
  | exn _ _ _ => exact h.elim
  | tr _ => exact h.elim
  | fr d =>
    cases d with
    | bl b =>
      have hr := vl.ro.1
      cases hr
      cases b with
      | true => exact ⟨true, rfl, iteT ⟨B', e', S', vl.rp, (show Post (g e') _ _ from h).imp (fun o e2 h v B2 H2 S2 T2 vl2 f2 => h v B2 H2 S2 T2 vl2 (f'.trans f2)) fun _ _ z => z.step f'⟩⟩
      | false => exact ⟨false, rfl, iteF (h _ B' H' S' noS (.fr vl.rp (.bl false)) (f.imp (fun _ z => z) fun a z => z.elim (fun z => z.elim) .inr))⟩
    | _ => exact h.elim
theorem d_or {rest : List Expr} (ha : PE X a (tE X.K X.mg W f)) (hb : PE X (.BoolOp .Or (b :: rest) pos) (tE X.K X.mg W g)) : PE X (.BoolOp .Or (a :: b :: rest) pos) (tE X.K X.mg W (eOr f g)) := pe_imp (pe_or ha hb) fun σ H Q h => by
  obtain ⟨B, e, S, r, h⟩ := h
  refine ⟨B, e, S, r, h.bind.imp (fun o e' h v B' H' S' T vl f => ?_) fun _ _ z => z⟩
  have f' := f.imp (fun _ z => z) (fun a (z : tot S' a) => .inr z)
  cases o with
  | lst ds => exact h.elim
  | dct _ _ => exact h.elim
  | ins _ _ _ => exact h.elim
  | exn _ _ _ => exact h.elim
  | tr _ => exact h.elim
  | fr d =>
    cases d with
    | bl b =>
      have hr := vl.ro.1
      cases hr
      cases b with
      | false => exact ⟨false, rfl, iteF ⟨B', e', S', vl.rp, (show Post (g e') _ _ from h).imp (fun o e2 h v B2 H2 S2 T2 vl2 f2 => h v B2 H2 S2 T2 vl2 (f'.trans f2)) fun _ _ z => z.step f'⟩⟩
      | true => exact ⟨true, rfl, iteT (h _ B' H' S' noS (.fr vl.rp (.bl true)) (f.imp (fun _ z => z) fun a z => z.elim (fun z => z.elim) .inr))⟩
    | _ => exact h.elim
theorem d_not (ha : PE X a (tE X.K X.mg W f)) : PE X (.UnaryOp .Not a pos) (tE X.K X.mg W (eNot f)) := pe_imp (pe_not ha) fun σ H Q h => by
  obtain ⟨B, e, S, r, h⟩ := h
  refine ⟨B, e, S, r, h.bind.imp (fun o e' h v B' H' S' T vl f => ?_) fun _ _ z => z⟩
  cases o with
  | lst ds => exact h.elim
  | dct _ _ => exact h.elim
  | ins _ _ _ => exact h.elim
  | exn _ _ _ => exact h.elim
  | tr _ => exact h.elim
  | fr d =>
    cases d with
    | bl b =>
      have hr := vl.ro.1
      cases hr
      exact ⟨b, rfl, h _ B' H' S' noS (.fr vl.rp (.bl _)) (f.imp (fun _ z => z) fun a z => z.elim (fun z => z.elim) .inr)⟩
    | _ => exact h.elim
theorem d_if {t : M Bool} (hc : PT X c (tT X.K X.mg W t)) (ha : PE X a (tE X.K X.mg W f)) (hb : PE X b (tE X.K X.mg W g)) : PE X (.IfExp c a b pos) (tE X.K X.mg W (eIf t f g)) := pe_imp (pe_ifExp hc ha hb) fun σ H Q h => by
  obtain ⟨B, e, S, r, h⟩ := h
  refine ⟨B, e, S, r, h.bind.imp (fun b e' h B' H' S' r' f' => ?_) fun _ _ z => z⟩
  cases b with
  | true => exact iteT ⟨B', e', S', r', (show Post (f e') _ _ from h).imp (fun o e2 h v B2 H2 S2 T2 vl2 f2 => h v B2 H2 S2 T2 vl2 (f'.trans f2)) fun _ _ z => z.step f'⟩
  | false => exact iteF ⟨B', e', S', r', (show Post (g e') _ _ from h).imp (fun o e2 h v B2 H2 S2 T2 vl2 f2 => h v B2 H2 S2 T2 vl2 (f'.trans f2)) fun _ _ z => z.step f'⟩
end
end Dn

namespace Dn
open PySem L2
open Evl (Ex)

/-! ## 6. Statements -/
section
variable {K : PySem.W.Frag} {mg : Str → Option Value} {W : WX} {B B' H H' : Hp} {v x y : V} {o : O} {d : D} {σ σ' : St} {e e' : Sl} {S S' : Nat → Addr → Prop} {T T' : Addr → Prop} {ks : List Nat}
/-- what is wanted behind a statement, from (B, H, S, σ) on -/
def Nd (K : PySem.W.Frag) (D : Ends) (ks : List Nat) (B H : Hp) (S : Nat → Addr → Prop) (σ : St) : Fl → Sl → Prop := fun fl e' => match fl with
    | .next => ∀ σ' B' H' S', Rp K B' H' σ' e' S' → Kp ks σ σ' → Fr B H (tot S) B' H' (tot S') → D.nx σ' H'
    | .brk => ∀ σ' B' H' S', Rp K B' H' σ' e' S' → Kp ks σ σ' → Fr B H (tot S) B' H' (tot S') → D.bk σ' H'
    | .cnt => ∀ σ' B' H' S', Rp K B' H' σ' e' S' → Kp ks σ σ' → Fr B H (tot S) B' H' (tot S') → D.ct σ' H'
    | .ret o => ∀ v σ' B' H' S' T, Vl K B' H' σ' e' S' v o T → Kp ks σ σ' → Fr B H (tot S) B' H' (fun a => T a ∨ tot S' a) → D.rt v H'
theorem tS_iff {g : M Fl} {D : Ends} : tS K mg W ks g D σ H ↔ ∃ B e S, Rp K B H σ e S ∧ Post (g e) (Nd K D ks B H S σ) (ExS K mg W ks B H S σ) := Iff.rfl
theorem Nd.step {D : Ends} {fl : Fl} (h : Nd K D ks B H S σ fl e') (k : Kp ks σ σ') (f : Fr B H (tot S) B' H' (tot S')) : Nd K D ks B' H' S' σ' fl e' := by
  cases fl with
  | next => exact fun σ2 B2 H2 S2 r k2 f2 => h σ2 B2 H2 S2 r (k.trans k2) (f.trans f2)
  | brk => exact fun σ2 B2 H2 S2 r k2 f2 => h σ2 B2 H2 S2 r (k.trans k2) (f.trans f2)
  | cnt => exact fun σ2 B2 H2 S2 r k2 f2 => h σ2 B2 H2 S2 r (k.trans k2) (f.trans f2)
  | ret o => exact fun v σ2 B2 H2 S2 T vl k2 f2 => h v σ2 B2 H2 S2 T vl (k.trans k2) (f.trans f2)
theorem Fr.weak {H1 B1 : Hp} {T : Addr → Prop} (f : Fr B H (tot S) B1 H1 (fun a => T a ∨ tot S' a)) : Fr B H (tot S) B1 H1 (tot S') := f.imp (fun _ z => z) fun _ z => .inr z
end

section
variable {X : Cx} {W : WX} {ks : List Nat} {st : Stmt} {rest : List Stmt} {g g1 g2 : M Fl} {f : M O} {e : Expr} {pos : Pos}
theorem ss_nil : PSs X [] (tS X.K X.mg W ks sNext) := pss_imp pss_nil fun D σ H h => by
  obtain ⟨B, e, S, r, h⟩ := h
  exact h σ B H S r (Kp.refl _ _) (Fr.refl _ _ _)
theorem ss_one (h : PS X st (tS X.K X.mg W ks g)) : PSs X [st] (tS X.K X.mg W ks g) := pss_one h
theorem ss_cons (h1 : PS X st (tS X.K X.mg W ks g1)) (h2 : PSs X rest (tS X.K X.mg W ks g2)) : PSs X (st :: rest) (tS X.K X.mg W ks (sSeq g1 g2)) := pss_imp (pss_cons h1 h2) fun D σ H h => by
  obtain ⟨B, e, S, r, h⟩ := h
  refine ⟨B, e, S, r, h.bind.imp (fun fl e' h => ?_) fun _ _ z => z⟩
  cases fl with
  | next => exact fun σ' B' H' S' r' k f => ⟨B', e', S', r', (show Post (g2 e') (Nd X.K D ks B H S σ) _ from h).imp (fun fl e2 h => h.step k f) fun x e2 z => ExS.step z k f⟩
  | brk => exact h
  | cnt => exact h
  | ret o => exact h
theorem s_pass : PS X (.Pass pos) (tS X.K X.mg W ks sNext) := ps_imp ps_pass fun D σ H h => by
  obtain ⟨B, e, S, r, h⟩ := h
  exact h σ B H S r (Kp.refl _ _) (Fr.refl _ _ _)
theorem s_doc {x j pos'} : PS X (.Expr (.Constant (.str x) j pos) pos') (tS X.K X.mg W ks sNext) := ps_imp ps_doc fun D σ H h => by
  obtain ⟨B, e, S, r, h⟩ := h
  exact h σ B H S r (Kp.refl _ _) (Fr.refl _ _ _)
theorem s_brk : PS X (.Break pos) (tS X.K X.mg W ks sBrk) := ps_imp ps_break fun D σ H h => by
  obtain ⟨B, e, S, r, h⟩ := h
  exact h σ B H S r (Kp.refl _ _) (Fr.refl _ _ _)
theorem s_cnt : PS X (.Continue pos) (tS X.K X.mg W ks sCnt) := ps_imp ps_continue fun D σ H h => by
  obtain ⟨B, e, S, r, h⟩ := h
  exact h σ B H S r (Kp.refl _ _) (Fr.refl _ _ _)
theorem s_ret (h : PE X e (tE X.K X.mg W f)) : PS X (.Return (some e) pos) (tS X.K X.mg W ks (sRet f)) := ps_imp (ps_ret h) fun D σ H h => by
  obtain ⟨B, e, S, r, h⟩ := h
  exact ⟨B, e, S, r, h.bind.imp (fun o e' h v B' H' S' T vl f => h v σ B' H' S' T vl (Kp.refl _ _) f) fun _ _ z => ExS.toE z⟩
theorem s_retN : PS X (.Return none pos) (tS X.K X.mg W ks (sRet (eC .non))) := ps_imp ps_retN fun D σ H h => by
  obtain ⟨B, e, S, r, h⟩ := h
  exact h .non σ B H S noS (.fr r .non) (Kp.refl _ _) ((Fr.refl _ _ _).imp (fun _ z => z) fun a z => z.elim (fun z => z.elim) id)
theorem s_drop (h : PE X e (tE X.K X.mg W f)) (hs : swapsWith e none pos.line X.env = pure false := by rfl) : PS X (.Expr e pos) (tS X.K X.mg W ks (sDrop f)) := ps_imp (ps_expr h hs) fun D σ H h => by
  obtain ⟨B, e, S, r, h⟩ := h
  exact ⟨B, e, S, r, h.bind.imp (fun o e' h v B' H' S' T vl f => h σ B' H' S' vl.rp (Kp.refl _ _) f.weak) fun _ _ z => ExS.toE z⟩
theorem s_if {c : Expr} {a b : List Stmt} {t : M Bool} (hc : PT X c (tT X.K X.mg W t)) (ha : PSs X a (tS X.K X.mg W ks g1)) (hb : PSs X b (tS X.K X.mg W ks g2)) : PS X (.If c a b pos) (tS X.K X.mg W ks (sIf t g1 g2)) := ps_imp (ps_if hc ha hb) fun D σ H h => by
  obtain ⟨B, e, S, r, h⟩ := h
  refine ⟨B, e, S, r, h.bind.imp (fun b e' h B' H' S' r' f => ?_) fun _ _ z => ExS.toE z⟩
  cases b with
  | true => exact iteT ⟨B', e', S', r', (show Post (g1 e') (Nd X.K D ks B H S σ) _ from h).imp (fun fl e2 h => h.step (Kp.refl _ _) f) fun x e2 z => ExS.step z (Kp.refl _ _) f⟩
  | false => exact iteF ⟨B', e', S', r', (show Post (g2 e') (Nd X.K D ks B H S σ) _ from h).imp (fun fl e2 h => h.step (Kp.refl _ _) f) fun x e2 z => ExS.step z (Kp.refl _ _) f⟩
theorem Fr.sets {B H B' H' : Hp} {S : Nat → Addr → Prop} {S' : Nat → Addr → Prop} {T : Addr → Prop} {i n : Nat} (f : Fr B H (tot S) B' H' (fun a => T a ∨ tot S' a)) : Fr B H (tot S) B' H' (tot (fun j => if j = i then (if i < n then T else noS) else S' j)) :=
  f.imp (fun _ z => z) fun _ z => tot_set z
theorem s_set {i : Nat} {x : Str} {pos' : Pos} (hN : X.N.Nodup) (hi : X.N[i]? = some x) (hx : Loc X.env.scope x) (h : PE X e (tE X.K X.mg W f)) (hk : i ∉ ks := by decide) (hs : swapsWith e (some (.Name x pos')) pos.line X.env = pure false := by rfl) (hf : X.fn x = true ∨ X.env.scope.names.lookup x = some .local := by first | exact .inl rfl | exact .inr rfl | assumption) :
    PS X (.Assign [.Name x pos'] e pos) (tS X.K X.mg W ks (sSet i f)) := ps_imp (ps_set hN hi hx h hs hf) fun D σ H h => by
  obtain ⟨B, e, S, r, h⟩ := h
  refine ⟨B, e, S, r, h.bind.imp (fun o e' h v B' H' S' T vl f => ?_) fun _ _ z => ExS.toE z⟩
  exact h _ B' H' _ (vl.set i) (Kp.set hk) f.sets

/-! ## 7. Displays, slices -/
/-- the items of a display, each kept from now on -/
def tIs (K : PySem.W.Frag) (mg : Str → Option Value) (W : WX) : List (M O) → TA
  | [] => tNil
  | f :: fs => tCons (tE K mg W f) (tIs K mg W fs)
theorem items_run {K : PySem.W.Frag} {mg : Str → Option Value} {W : WX} {σ : St} : ∀ (fs : List (M O)) {B H : Hp} {e : Sl} {S : Nat → Addr → Prop} (Q : List V → Hp → Prop), Rp K B H σ e S →
    Post (items fs e) (fun ds e' => ∀ vs B' H' S', Rp K B' H' σ e' S' → RepL K B' vs ds → Fr B H (tot S) B' H' (tot S') → Q vs H') (fun x e' => ExE K mg W B H S σ x e') → tIs K mg W fs σ H Q
  | [], B, H, e, S, Q, r, h => h [] B H S r .nil (Fr.refl _ _ _)
  | f :: fs, B, H, e, S, Q, r, h => by
    unfold items at h
    refine ⟨B, e, S, r, h.bind.imp (fun o e1 h v B1 H1 S1 T vl f1 => ?_) fun _ _ z => z⟩
    obtain ⟨B2, vl2, f2⟩ := vl.freeze
    have f3 : Fr B H (tot S) B2 H1 (tot S1) := f1.trans ⟨f2.b, fun a o q _ => q, fun a z => .inl (.inr z), fun a u q => (f2.c a u q).elim .inl fun z => .inr (z.elim (fun z => .inl (.inl z)) .inr), fun a o q => ⟨o, q⟩⟩
    refine items_run fs _ vl2.rp (h.bind.imp (fun ds e' h vs B' H' S' r' rl f4 => ?_) fun x e' z => z.step f3)
    have h' : ∀ vs B' H' S', Rp K B' H' σ e' S' → RepL K B' vs (o.d :: ds) → Fr B H (tot S) B' H' (tot S') → Q vs H' := h
    exact h' _ B' H' S' r' (.cons (vl2.ro.1.mono f4.b) rl) (f3.trans f4)
theorem is_n : PA X [] (tIs X.K X.mg W []) := pa_nil
theorem is_c {es : List Expr} {fs : List (M O)} (h : PE X e (tE X.K X.mg W f)) (hr : PA X es (tIs X.K X.mg W fs)) (hs : starEach (e :: es) X.env = (false, eval e X.env) :: starEach es X.env := by rfl) : PA X (e :: es) (tIs X.K X.mg W (f :: fs)) := pa_cons h hr hs
theorem small_items : ∀ (fs : List (M O)) (e : Sl) (ds : List D) (e' : Sl), items fs e = some (.ok ds e') → ds.length = fs.length
  | [], e, ds, e', h => by cases h; rfl
  | f :: fs, e, ds, e', h => by
    unfold items M.bind at h
    cases q : f e with
    | none => rw [q] at h; cases h
    | some r =>
      cases r with
      | ex x e1 => rw [q] at h; cases h
      | ok o e1 =>
        rw [q] at h
        dsimp only [M.bind] at h
        cases q2 : items fs e1 with
        | none => rw [q2] at h; cases h
        | some r2 =>
          cases r2 with
          | ex x e2 => rw [q2] at h; cases h
          | ok ds2 e3 =>
            rw [q2] at h
            have q3 := small_items fs e1 ds2 e3 q2
            cases h
            rw [List.length_cons, List.length_cons, q3]
theorem RepL.len_of {K : PySem.W.Frag} {B : Hp} {vs : List V} {ds : List D} {n : Nat} (h : RepL K B vs ds) (e : ds.length = n) (hn : n ≤ 1000) : vs.length ≤ sizeLine := by
  rw [h.length, e]
  exact Nat.le_trans hn (by decide)
theorem post_len {fs : List (M O)} {e : Sl} {ok : List D → Sl → Prop} {ex : Exn → Sl → Prop} (h : Post (items fs e) ok ex) : Post (items fs e) (fun ds e' => ok ds e' ∧ ds.length = fs.length) ex := by
  cases q : items fs e with
  | none => rw [q] at h; exact h
  | some r =>
    rw [q] at h
    cases r with
    | ex x e1 => exact h
    | ok ds e1 => exact ⟨h, small_items fs e ds e1 q⟩
theorem d_tup {es : List Expr} {fs : List (M O)} {x1} (h : PA X es (tIs X.K X.mg W fs)) (hn : fs.length ≤ 1000 := by decide) : PE X (.Tuple es x1 pos) (tE X.K X.mg W (eTup fs)) := pe_imp (pe_tup h) fun σ H Q h => by
  obtain ⟨B, e, S, r, h⟩ := h
  refine items_run fs _ r ((post_len h.bind).imp (fun ds e' h vs B' H' S' r' rl f => ⟨rl.len_of h.2 hn, fun p hp => ?_⟩) fun _ _ z => z)
  have h' : ∀ v B' H' S' T, Vl X.K B' H' σ e' S' v (.fr (.tup ds)) T → Fr B H (tot S) B' H' (fun a => T a ∨ tot S' a) → Q v H' := h.1
  exact (r'.giv fun v B2 H2 S2 T vl f2 => h' v B2 H2 S2 T vl (f.trans f2)).newT r'.ex rl hp
theorem d_lst {es : List Expr} {fs : List (M O)} (h : PA X es (tIs X.K X.mg W fs)) (hn : fs.length ≤ 1000 := by decide) : PE X (.List es pos) (tE X.K X.mg W (eLst fs)) := pe_imp (pe_lst h) fun σ H Q h => by
  obtain ⟨B, e, S, r, h⟩ := h
  refine items_run fs _ r ((post_len h.bind).imp (fun ds e' h vs B' H' S' r' rl f => ⟨rl.len_of h.2 hn, fun p hp => ?_⟩) fun _ _ z => z)
  have h' : ∀ v B' H' S' T, Vl X.K B' H' σ e' S' v (.lst ds) T → Fr B H (tot S) B' H' (fun a => T a ∨ tot S' a) → Q v H' := h.1
  exact (r'.giv fun v B2 H2 S2 T vl f2 => h' v B2 H2 S2 T vl (f.trans f2)).newL r'.ex rl hp
end

/-! ## 8. What is walked -/
/-- frozen data walked: item by item, new objects at most -/
def WalkD (K : PySem.W.Frag) (J : It) (B : Hp) (ds : List D) : Prop := ∃ (G : Hp → Prop) (Y : Nat → Hp → V → Hp → Prop), Walk J ds.length G Y ∧ (∀ H, Ex B H → G H) ∧
  ∀ i H x H' B1, i < ds.length → Ex B B1 → Ex B1 H → Y i H x H' → ∃ B2 d, Gr B1 H B2 H' ∧ ds[i]? = some d ∧ Rep K B2 x d
def tSrc (K : PySem.W.Frag) (mg : Str → Option Value) (W : WX) (src : M (List D)) : TI := fun σ H R => ∃ B e S, Rp K B H σ e S ∧ Post (src e)
  (fun ds e' => ∀ J B' H' S', Rp K B' H' σ e' S' → Fr B H (tot S) B' H' (tot S') → WalkD K J B' ds → R J H') (fun x e' => ExE K mg W B H S σ x e')
theorem pi_imp {X : Cx} {tg e : Expr} {t t' : TI} (h : PI X tg e t) (i : ∀ σ H R, t' σ H R → t σ H R) : PI X tg e t' := ⟨fun pins s σ H R I q => h.run pins s σ H R I (i σ H R q)⟩
/-- a target: names, or a tuple of names -/
inductive Tg where
  | n (i : Nat) | t (is : List Nat)
def setAll : List Nat → List D → Sl → Option Sl
  | [], [], e => some e
  | i :: is, d :: ds, e => setAll is ds (e.set i (some (.fr d)))
  | _, _, _ => none
def Tg.go : Tg → D → Sl → Option Sl
  | .n i, d, e => some (e.set i (some (.fr d)))
  | .t is, .tup ds, e => setAll is ds e
  | _, _, _ => none
def Tg.ix : Tg → List Nat
  | .n i => [i]
  | .t is => is
def tTgs : List Nat → TGs
  | [] => gNil
  | i :: is => gCons (gName i) (tTgs is)
def tTg (K : PySem.W.Frag) : Tg → TG
  | .n i => gName i
  | .t is => gTup K is.length (tTgs is)
theorem setAll_run {K : PySem.W.Frag} {B H : Hp} {ks : List Nat} : ∀ (is : List Nat) (vs : List V) (ds : List D) {σ : St} {e e' : Sl} {S : Nat → Addr → Prop} (Q : St → Hp → Prop), Rp K B H σ e S → RepL K B vs ds → setAll is ds e = some e' → (∀ i ∈ is, i ∉ ks) →
    (∀ σ' S', Rp K B H σ' e' S' → Kp ks σ σ' → (∀ a, tot S' a → tot S a) → (∀ j, j ∉ is → σ'[j]? = σ[j]?) → Q σ' H) → tTgs is vs σ H Q
  | [], [], [], σ, e, e', S, Q, r, rl, h, hk, q => by
    cases h
    exact ⟨rfl, q σ S r (Kp.refl _ _) (fun _ z => z) fun _ _ => rfl⟩
  | [], _ :: _, _ :: _, _, _, _, _, _, _, _, h, _, _ => by cases h
  | [], [], _ :: _, _, _, _, _, _, _, rl, h, _, _ => by cases rl
  | [], _ :: _, [], _, _, _, _, _, _, rl, h, _, _ => by cases rl
  | _ :: _, _, [], _, _, _, _, _, _, _, h, _, _ => by cases h
  | _ :: _, [], _ :: _, _, _, _, _, _, _, rl, _, _, _ => by cases rl
  | i :: is, v :: vs, d :: ds, σ, e, e', S, Q, r, .cons hv rl, h, hk, q => by
    refine ⟨v, vs, rfl, setAll_run is vs ds (K := K) (B := B) (ks := ks) Q ((Vl.fr r hv).set i) rl h (fun j hj => hk j (List.mem_cons_of_mem _ hj)) fun σ' S' r' k' t' n' => ?_⟩
    refine q σ' S' r' ((Kp.set (hk i List.mem_cons_self)).trans k') (fun a z => ?_) fun j hj => ?_
    · exact (tot_set (t' a z)).elim (fun z => z.elim) id
    · rw [List.mem_cons, not_or] at hj
      rw [n' j hj.2, List.getElem?_set_ne (Ne.symm hj.1)]
theorem setAll_len : ∀ (is : List Nat) (ds : List D) {e e' : Sl}, setAll is ds e = some e' → ds.length = is.length
  | [], [], _, _, _ => rfl
  | [], _ :: _, _, _, h => by cases h
  | _ :: _, [], _, _, h => by cases h
  | i :: is, d :: ds, e, e', h => by
    rw [List.length_cons, List.length_cons, setAll_len is ds (e := e.set i (some (.fr d))) h]
theorem tg_run {K : PySem.W.Frag} {B H : Hp} {ks : List Nat} {tg : Tg} {v : V} {d : D} {σ : St} {e e' : Sl} {S : Nat → Addr → Prop} {Q : St → Hp → Prop} (r : Rp K B H σ e S) (hv : Rep K B v d) (h : tg.go d e = some e') (hk : ∀ i ∈ tg.ix, i ∉ ks)
    (q : ∀ σ' S', Rp K B H σ' e' S' → Kp ks σ σ' → (∀ a, tot S' a → tot S a) → (∀ j, j ∉ tg.ix → σ'[j]? = σ[j]?) → Q σ' H) : tTg K tg v σ H Q := by
  cases tg with
  | n i =>
    cases h
    refine q _ _ ((Vl.fr r hv).set i) (Kp.set (hk i List.mem_cons_self)) (fun a z => (tot_set z).elim (fun z => z.elim) id) fun j hj => ?_
    rw [List.getElem?_set_ne]
    intro z
    exact hj (by rw [z]; exact List.mem_cons_self)
  | t is =>
    cases d with
    | tup ds =>
      have h' : setAll is ds e = some e' := h
      cases hv with
      | tup hq rl =>
        have hl : ds.length = is.length := by
          exact setAll_len is ds h'
        exact ⟨_, _, rfl, Evl.ex_t r.ex hq.sq, rl.length.trans hl, setAll_run is _ ds Q r rl h' hk q⟩
    | _ => cases h

def forL (tg : Tg) (body : M Fl) : List D → M Fl
  | [] => M.pure .next
  | d :: ds => fun e => match tg.go d e with
    | none => none
    | some e1 => match body e1 with
      | none => none
      | some (.ex x e') => some (.ex x e')
      | some (.ok fl e') => match fl with
        | .next => forL tg body ds e'
        | .cnt => forL tg body ds e'
        | .brk => some (.ok .next e')
        | .ret o => some (.ok (.ret o) e')
def sFor (src : M (List D)) (tg : Tg) (body : M Fl) : M Fl := src.bind fun ds => forL tg body ds
def whL (c : M Bool) (body : M Fl) : Nat → M Fl
  | 0 => M.stuck
  | n + 1 => c.bind fun b => if b then (fun e => match body e with
      | none => none
      | some (.ex x e') => some (.ex x e')
      | some (.ok fl e') => match fl with
        | .next => whL c body n e'
        | .cnt => whL c body n e'
        | .brk => some (.ok .next e')
        | .ret o => some (.ok (.ret o) e')) else M.pure .next

section
variable {X : Cx} {W : WX} {ks : List Nat} {g : M Fl} {pos : Pos} {tg : Tg} {src : M (List D)}
theorem for_imp (hk : ∀ i ∈ tg.ix, i ∉ ks) {D : Ends} {σ : St} {H : Hp} (h : tS X.K X.mg W ks (sFor src tg g) D σ H) : tFor (tSrc X.K X.mg W src) (tTg X.K tg) (tS X.K X.mg W ks g) D σ H := by
  obtain ⟨B, e, S, r, h⟩ := h
  refine ⟨B, e, S, r, h.bind.imp (fun ds e1 h J B1 H1 S1 r1 f1 wd => ?_) fun _ _ z => ExS.toE z⟩
  obtain ⟨G, Y, wk, hG, hY⟩ := wd
  have h0 : Post (forL tg g ds e1) (Nd X.K D ks B H S σ) (ExS X.K X.mg W ks B H S σ) := h
  refine for_it wk (fun i σ' H' => ∃ B' e' S', Rp X.K B' H' σ' e' S' ∧ Kp ks σ σ' ∧ Fr B H (tot S) B' H' (tot S') ∧ Ex B1 B' ∧ Post (forL tg g (ds.drop i) e') (Nd X.K D ks B H S σ) (ExS X.K X.mg W ks B H S σ)) ⟨B1, e1, S1, r1, Kp.refl _ _, f1, Ex.refl _, h0⟩ (fun i σ' H' hi ⟨B', e', S', r', k', f', x', h'⟩ => hG _ (x'.trans r'.ex)) (fun i x σ' H' H2 hi ⟨B', e', S', r', k', f', x', h'⟩ hy => ?_) fun σ' H' ⟨B', e', S', r', k', f', x', h'⟩ => ?_
  · obtain ⟨B2, d, gr, hd, rv⟩ := hY i H' x H2 B' hi x' r'.ex hy
    have ed : ds.drop i = d :: ds.drop (i + 1) := by
      rw [List.drop_eq_getElem_cons hi]
      rw [List.getElem?_eq_getElem hi] at hd
      cases hd
      rfl
    rw [ed] at h'
    unfold forL at h'
    cases q : tg.go d e' with
    | none => rw [q] at h'; exact h'.elim
    | some e2 =>
      rw [q] at h'
      have r2 := r'.grow gr
      refine tg_run (ks := ks) r2 rv q hk fun σ3 S3 r3 k3 t3 _ => ?_
      have f3 : Fr B H (tot S) B2 H2 (tot S3) := (f'.trans (gr.fr (tot S'))).imp (fun _ z => z) t3
      refine ⟨B2, e2, S3, r3, ?_⟩
      cases qb : g e2 with
      | none => simp only [qb] at h'; exact h'.elim
      | some rr =>
        cases rr with
        | ex x2 e4 =>
          simp only [qb] at h'
          exact ExS.step h' (k'.trans k3) f3
        | ok fl e4 =>
          simp only [qb] at h'
          cases fl with
          | next => exact fun σ4 B4 H4 S4 r4 k4 f4 => ⟨B4, e4, S4, r4, (k'.trans k3).trans k4, f3.trans f4, (x'.trans gr.b).trans f4.b, h'⟩
          | cnt => exact fun σ4 B4 H4 S4 r4 k4 f4 => ⟨B4, e4, S4, r4, (k'.trans k3).trans k4, f3.trans f4, (x'.trans gr.b).trans f4.b, h'⟩
          | brk => exact fun σ4 B4 H4 S4 r4 k4 f4 => (show Nd X.K D ks B H S σ .next e4 from h') σ4 B4 H4 S4 r4 ((k'.trans k3).trans k4) (f3.trans f4)
          | ret o => exact fun v σ4 B4 H4 S4 T4 vl k4 f4 => (show Nd X.K D ks B H S σ (.ret o) e4 from h') v σ4 B4 H4 S4 T4 vl ((k'.trans k3).trans k4) (f3.trans f4)
  · rw [List.drop_length] at h'
    exact (show Nd X.K D ks B H S σ .next e' from h') σ' B' H' S' r' k' f'
theorem s_for {iter target : Expr} {body : List Stmt} (hp : PassesOwn (model X.prog X.w) X.A X.env X.xe) (hc : X.calm = true) (hi : PI X target iter (tSrc X.K X.mg W src)) (hg : PG X target (tTg X.K tg)) (hb : PSs X body (tS X.K X.mg W ks g)) (hk : ∀ i ∈ tg.ix, i ∉ ks)
    (hs : ∀ x, foldedSetIterable iter X.env x = pure x := by intro _; rfl) : PS X (.For target iter body [] pos) (tS X.K X.mg W ks (sFor src tg g)) := ps_imp (ps_for hp hc hi hg hb hs) fun D σ H h => for_imp hk h
theorem s_while {c : Expr} {body : List Stmt} {t : M Bool} (n : Nat) (hp : PassesOwn (model X.prog X.w) X.A X.env X.xe) (hc : PT X c (tT X.K X.mg W t)) (hb : PSs X body (tS X.K X.mg W ks g)) : PS X (.While c body [] pos) (tS X.K X.mg W ks (whL t g n)) := ps_imp (ps_while hp hc hb) fun D σ H h => by
  obtain ⟨B, e, S, r, h⟩ := h
  have h0 : Post (whL t g n e) (Nd X.K D ks B H S σ) (ExS X.K X.mg W ks B H S σ) := h
  refine ⟨fun m σ' H' => ∃ B' e' S', Rp X.K B' H' σ' e' S' ∧ Kp ks σ σ' ∧ Fr B H (tot S) B' H' (tot S') ∧ Post (whL t g m e') (Nd X.K D ks B H S σ) (ExS X.K X.mg W ks B H S σ), ⟨n, B, e, S, r, Kp.refl _ _, Fr.refl _ _ _, h0⟩, fun m σ' H' ⟨B', e', S', r', k', f', h'⟩ => ?_⟩
  cases m with
  | zero => exact h'.elim
  | succ m =>
    unfold whL at h'
    refine ⟨B', e', S', r', h'.bind.imp (fun b e2 h2 B2 H2 S2 r2 f2 => ?_) fun x e2 z => (ExS.step z k' f').toE⟩
    cases b with
    | false => exact iteF ((show Nd X.K D ks B H S σ .next e2 from h2) σ' B2 H2 S2 r2 k' (f'.trans f2))
    | true =>
      refine iteT ⟨fun σ4 H4 => ∃ m', m' < m + 1 ∧ ∃ B' e' S', Rp X.K B' H4 σ4 e' S' ∧ Kp ks σ σ4 ∧ Fr B H (tot S) B' H4 (tot S') ∧ Post (whL t g m' e') (Nd X.K D ks B H S σ) (ExS X.K X.mg W ks B H S σ), fun σ4 H4 ⟨m', hm, z⟩ => ⟨m', hm, z⟩, B2, e2, S2, r2, ?_⟩
      rw [if_pos rfl] at h2
      cases qb : g e2 with
      | none => simp only [qb] at h2; exact h2.elim
      | some rr =>
        cases rr with
        | ex x2 e4 =>
          simp only [qb] at h2
          exact ExS.step h2 k' (f'.trans f2)
        | ok fl e4 =>
          simp only [qb] at h2
          cases fl with
          | next => exact fun σ4 B4 H4 S4 r4 k4 f4 => ⟨m, Nat.lt_succ_self m, B4, e4, S4, r4, k'.trans k4, (f'.trans f2).trans f4, h2⟩
          | cnt => exact fun σ4 B4 H4 S4 r4 k4 f4 => ⟨m, Nat.lt_succ_self m, B4, e4, S4, r4, k'.trans k4, (f'.trans f2).trans f4, h2⟩
          | brk => exact fun σ4 B4 H4 S4 r4 k4 f4 => (show Nd X.K D ks B H S σ .next e4 from h2) σ4 B4 H4 S4 r4 (k'.trans k4) ((f'.trans f2).trans f4)
          | ret o => exact fun v σ4 B4 H4 S4 T4 vl k4 f4 => (show Nd X.K D ks B H S σ (.ret o) e4 from h2) v σ4 B4 H4 S4 T4 vl (k'.trans k4) ((f'.trans f2).trans f4)
end
end Dn

namespace Dn
open PySem L2
open Evl (Ex)

/-! ## 9. Defs and calls -/
inductive RF where
  | ok (o : O) (os : List O) | ex (x : Exn) (os : List O)
abbrev Fn := List O → Option RF
/-- the arguments: a slot handed on as it stands, or a value that is kept -/
def cops : List P → M (List O)
  | [] => M.pure []
  | .b i :: ps => fun e => match e[i]? with
    | some (some _) => (cops ps).bind (fun os e' => match e'[i]? with
      | some (some o) => some (.ok (o :: os) e')
      | _ => none) e
    | _ => none
  | .v f :: ps => f.bind fun o => (cops ps).bind fun os => M.pure (.fr o.d :: os)
/-- behind the call the slots that were handed on -/
def wb : List P → List O → Sl → Sl
  | .b i :: ps, o :: os, e => (wb ps os e).set i (some o)
  | .v _ :: ps, _ :: os, e => wb ps os e
  | _, _, e => e
def bs : List P → List Nat
  | [] => []
  | .b i :: ps => i :: bs ps
  | .v _ :: ps => bs ps
def eCall (F : Fn) (ps : List P) (dv : List D) : M O := (cops ps).bind fun os e => match F (os ++ dv.map .fr) with
  | none => none
  | some (.ok o os') => some (.ok o (wb ps os' e))
  | some (.ex x os') => some (.ex x (wb ps os' e))
def RetP (K : PySem.W.Frag) (mg : Str → Option Value) (B H : Hp) (S : Addr → Prop) (vs : List V) (Q : VK) (E : XK) : Option RF → Prop
  | none => False
  | some (.ok o os') => ∀ v B' H' S' T, os'.length = vs.length → Vl K B' H' (vs.map some) (os'.map some) S' v o T → Fr B H S B' H' (fun a => T a ∨ tot S' a) → Q v H'
  | some (.ex x os') => ∀ (C d : Addr) (fs : List (Str × V)) (B' H' : Hp) (S' : Nat → Addr → Prop), os'.length = vs.length → mg x.cls = some (.ref C) → Rp K B' H' (vs.map some) (os'.map some) S' → H' d = some (.xd fs) → XF K B' fs x.fs → H d = none → Fr B H S B' H' (tot S') → E (.ref C) (some d) H'
def spD (K : PySem.W.Frag) (mg : Str → Option Value) (n : Nat) (F : Fn) : Sp := fun vs H Q E => vs.length = n ∧ ∃ B os S, Rp K B H (vs.map some) (os.map some) S ∧ RetP K mg B H (tot S) vs Q E (F os)

section
variable {K : PySem.W.Frag} {mg : Str → Option Value} {W : WX} {B B' H H' : Hp} {v x y : V} {o : O} {d : D} {σ σ' : St} {e e' : Sl} {S S' : Nat → Addr → Prop} {T T' : Addr → Prop} {ks : List Nat}
theorem RepO.iff (h : RepO K B H v o T) (i : ∀ a, T a ↔ T' a) : RepO K B H v o T' := by
  cases o with
  | fr d => exact ⟨h.1, fun a z => h.2 a ((i a).mpr z)⟩
  | lst ds =>
    obtain ⟨p, xs, e, hp, hr, hs⟩ := h
    exact ⟨p, xs, e, hp, hr, fun a => (i a).symm.trans (hs a)⟩
  | dct kvs =>
    obtain ⟨p, kv, e, hp, hk, hr, hs⟩ := h
    exact ⟨p, kv, e, hp, hk, hr, fun a => (i a).symm.trans (hs a)⟩
  | ins c ns xs =>
    obtain ⟨p, C, dx, fs, e, hp, hc, hk, hr, hs⟩ := h
    exact ⟨p, C, dx, fs, e, hp, hc, hk, hr, fun a => (i a).symm.trans (hs a)⟩
  | exn a d x =>
    obtain ⟨e, hx, hs⟩ := h
    exact ⟨e, hx, fun a z => hs a ((i a).mpr z)⟩
  | tr t => exact RepT.iff h i
/-- where an argument's own addresses come from -/
def argS (ps : List P) (S : Nat → Addr → Prop) : Nat → Addr → Prop := fun k a => ∃ i, ps[k]? = some (.b i) ∧ S i a
/-- the arguments, as they stand at the call -/
def ArgR (K : PySem.W.Frag) (B H : Hp) (σ : St) (S : Nat → Addr → Prop) : List P → List V → List O → Prop
  | [], [], [] => True
  | .b i :: ps, v :: vs, o :: os => σ[i]? = some (some v) ∧ RepO K B H v o (S i) ∧ ArgR K B H σ S ps vs os
  | .v _ :: ps, v :: vs, o :: os => RepO K B H v o noS ∧ ArgR K B H σ S ps vs os
  | _, _, _ => False
theorem cops_run : ∀ (ps : List P) {B H : Hp} {e : Sl} {S : Nat → Addr → Prop} (Q : List V → Hp → Prop), Rp K B H σ e S →
    Post (cops ps e) (fun os e' => ∀ vs B' H' S', Rp K B' H' σ e' S' → ArgR K B' H' σ S' ps vs os → Fr B H (tot S) B' H' (tot S') → Q vs H') (fun x e' => ExE K mg W B H S σ x e') → tPs K mg W ps σ H Q
  | [], B, H, e, S, Q, r, h => h [] B H S r trivial (Fr.refl _ _ _)
  | .b i :: ps, B, H, e, S, Q, r, h => by
    unfold cops at h
    cases q : e[i]? with
    | none => rw [q] at h; exact h.elim
    | some u =>
      cases u with
      | none => rw [q] at h; exact h.elim
      | some o0 =>
        rw [q] at h
        obtain ⟨v, hv, _⟩ := r.rep i o0 q
        refine ⟨v, hv, cops_run ps _ r (h.bind.imp (fun ds e' h vs B' H' S' r' rl f => ?_) fun _ _ z => z)⟩
        cases q' : e'[i]? with
        | none => rw [q'] at h; exact h.elim
        | some u' =>
          cases u' with
          | none => rw [q'] at h; exact h.elim
          | some o =>
            rw [q'] at h
            obtain ⟨v', hv', ro⟩ := r'.rep i o q'
            rw [hv] at hv'; cases hv'
            have h' : ∀ vs B' H' S', Rp K B' H' σ e' S' → ArgR K B' H' σ S' (.b i :: ps) vs (o :: ds) → Fr B H (tot S) B' H' (tot S') → Q vs H' := h
            exact h' _ B' H' S' r' ⟨hv, ro, rl⟩ f
  | .v f :: ps, B, H, e, S, Q, r, h => by
    unfold cops at h
    refine ⟨B, e, S, r, h.bind.imp (fun o e1 h v B1 H1 S1 T vl f1 => ?_) fun _ _ z => z⟩
    obtain ⟨B2, vl2, f2⟩ := vl.freeze
    have f3 : Fr B H (tot S) B2 H1 (tot S1) := f1.trans ⟨f2.b, fun a o q _ => q, fun a z => .inl (.inr z), fun a u q => (f2.c a u q).elim .inl fun z => .inr (z.elim (fun z => .inl (.inl z)) .inr), fun a o q => ⟨o, q⟩⟩
    refine cops_run ps _ vl2.rp (h.bind.imp (fun ds e' h vs B' H' S' r' rl f4 => ?_) fun x e' z => z.step f3)
    have h' : ∀ vs B' H' S', Rp K B' H' σ e' S' → ArgR K B' H' σ S' (.v f :: ps) vs (.fr o.d :: ds) → Fr B H (tot S) B' H' (tot S') → Q vs H' := h
    exact h' _ B' H' S' r' ⟨⟨vl2.ro.1.mono f4.b, fun _ z => z⟩, rl⟩ (f3.trans f4)
theorem ArgR.len : ∀ {ps : List P} {vs : List V} {os : List O}, ArgR K B H σ S ps vs os → vs.length = ps.length ∧ os.length = ps.length
  | [], [], [], _ => ⟨rfl, rfl⟩
  | .b i :: ps, v :: vs, o :: os, h => by
    obtain ⟨a, b⟩ := ArgR.len h.2.2
    exact ⟨by rw [List.length_cons, List.length_cons, a], by rw [List.length_cons, List.length_cons, b]⟩
  | .v _ :: ps, v :: vs, o :: os, h => by
    obtain ⟨a, b⟩ := ArgR.len h.2
    exact ⟨by rw [List.length_cons, List.length_cons, a], by rw [List.length_cons, List.length_cons, b]⟩
  | [], _ :: _, _, h => h.elim
  | [], [], _ :: _, h => h.elim
  | .b _ :: _, [], _, h => h.elim
  | .b _ :: _, _ :: _, [], h => h.elim
  | .v _ :: _, [], _, h => h.elim
  | .v _ :: _, _ :: _, [], h => h.elim
theorem ArgR.at : ∀ {ps : List P} {vs : List V} {os : List O} {k : Nat} {o : O}, ArgR K B H σ S ps vs os → os[k]? = some o → ∃ v, vs[k]? = some v ∧ RepO K B H v o (argS ps S k) ∧ ∀ i, ps[k]? = some (.b i) → σ[i]? = some (some v)
  | [], [], [], k, o, _, e => by simp at e
  | .b i :: ps, v :: vs, o' :: os, 0, o, h, e => by
    simp at e; subst e
    refine ⟨v, rfl, h.2.1.iff fun a => ⟨fun z => ⟨i, rfl, z⟩, fun ⟨j, hj, z⟩ => ?_⟩, fun j hj => ?_⟩
    · have hj' : some (P.b i) = some (P.b j) := hj
      cases hj'; exact z
    · have hj' : some (P.b i) = some (P.b j) := hj
      cases hj'; exact h.1
  | .v _ :: ps, v :: vs, o' :: os, 0, o, h, e => by
    simp at e; subst e
    refine ⟨v, rfl, h.1.iff fun a => ⟨fun z => z.elim, fun ⟨j, hj, z⟩ => ?_⟩, fun j hj => ?_⟩
    · cases hj
    · cases hj
  | .b i :: ps, v :: vs, o' :: os, k + 1, o, h, e => by
    obtain ⟨v', a, b, c⟩ := ArgR.at (k := k) h.2.2 (by simpa using e)
    exact ⟨v', by simpa using a, b, c⟩
  | .v _ :: ps, v :: vs, o' :: os, k + 1, o, h, e => by
    obtain ⟨v', a, b, c⟩ := ArgR.at (k := k) h.2 (by simpa using e)
    exact ⟨v', by simpa using a, b, c⟩
  | [], _ :: _, _, _, _, h, _ => h.elim
  | [], [], _ :: _, _, _, h, _ => h.elim
  | .b _ :: _, [], _, _, _, h, _ => h.elim
  | .b _ :: _, _ :: _, [], _, _, h, _ => h.elim
  | .v _ :: _, [], _, _, _, h, _ => h.elim
  | .v _ :: _, _ :: _, [], _, _, h, _ => h.elim
theorem bs_mem : ∀ {ps : List P} {k i : Nat}, ps[k]? = some (.b i) → i ∈ bs ps
  | .b j :: ps, 0, i, h => by
    have h' : some (P.b j) = some (P.b i) := h
    cases h'; exact List.mem_cons_self
  | .v _ :: _, 0, _, h => by cases h
  | .b j :: ps, k + 1, i, h => List.mem_cons_of_mem _ (bs_mem (ps := ps) (k := k) h)
  | .v _ :: ps, k + 1, i, h => bs_mem (ps := ps) (k := k) h
theorem bs_inj : ∀ {ps : List P} {k l i : Nat}, (bs ps).Nodup → ps[k]? = some (.b i) → ps[l]? = some (.b i) → k = l
  | .b j :: ps, 0, 0, _, _, _, _ => rfl
  | .b j :: ps, 0, l + 1, i, n, h1, h2 => by
    have h' : some (P.b j) = some (P.b i) := h1
    cases h'
    exact absurd (bs_mem (ps := ps) (k := l) h2) (List.nodup_cons.mp n).1
  | .b j :: ps, k + 1, 0, i, n, h1, h2 => by
    have h' : some (P.b j) = some (P.b i) := h2
    cases h'
    exact absurd (bs_mem (ps := ps) (k := k) h1) (List.nodup_cons.mp n).1
  | .b j :: ps, k + 1, l + 1, i, n, h1, h2 => congrArg (· + 1) (bs_inj (ps := ps) (List.nodup_cons.mp n).2 h1 h2)
  | .v _ :: ps, 0, _, _, _, h1, _ => by cases h1
  | .v _ :: ps, _ + 1, 0, _, _, _, h2 => by cases h2
  | .v _ :: ps, k + 1, l + 1, i, n, h1, h2 => congrArg (· + 1) (bs_inj (ps := ps) n h1 h2)
  | [], _, _, _, _, h, _ => by simp at h
theorem wb_length : ∀ (ps : List P) (os : List O) (e : Sl), (wb ps os e).length = e.length
  | .b i :: ps, o :: os, e => by unfold wb; rw [List.length_set, wb_length ps os e]
  | .v _ :: ps, _ :: os, e => by unfold wb; exact wb_length ps os e
  | [], _, _ => by unfold wb; rfl
  | .b _ :: _, [], _ => by unfold wb; rfl
  | .v _ :: _, [], _ => by unfold wb; rfl
theorem wb_at : ∀ {ps : List P} {os : List O} {e : Sl} {j : Nat} {o : O}, os.length = ps.length → (wb ps os e)[j]? = some (some o) → (∃ k : Nat, ps[k]? = some (P.b j) ∧ os[k]? = some o) ∨ ((∀ k : Nat, ps[k]? ≠ some (P.b j)) ∧ e[j]? = some (some o))
  | [], os, e, j, o, _, h => .inr ⟨fun k z => by simp at z, by unfold wb at h; exact h⟩
  | .b i :: ps, [], _, _, _, l, _ => by simp at l
  | .v _ :: ps, [], _, _, _, l, _ => by simp at l
  | .b i :: ps, o' :: os, e, j, o, l, h => by
    unfold wb at h
    by_cases hj : i = j
    · subst hj
      by_cases hl : i < (wb ps os e).length
      · rw [List.getElem?_set_self hl] at h
        cases h
        exact .inl ⟨0, rfl, rfl⟩
      · rw [List.getElem?_eq_none (by rw [List.length_set]; omega)] at h; cases h
    · rw [List.getElem?_set_ne hj] at h
      rcases wb_at (ps := ps) (os := os) (by simpa using l) h with ⟨k, a, b⟩ | ⟨a, b⟩
      · exact .inl ⟨k + 1, a, b⟩
      · refine .inr ⟨fun k z => ?_, b⟩
        cases k with
        | zero =>
          have z' : some (P.b i) = some (P.b j) := z
          cases z'; exact hj rfl
        | succ k => exact a k z
  | .v _ :: ps, o' :: os, e, j, o, l, h => by
    unfold wb at h
    rcases wb_at (ps := ps) (os := os) (by simpa using l) h with ⟨k, a, b⟩ | ⟨a, b⟩
    · exact .inl ⟨k + 1, a, b⟩
    · refine .inr ⟨fun k z => ?_, b⟩
      cases k with
      | zero => cases z
      | succ k => exact a k z
/-- what the callee is handed -/
theorem ArgR.rp {ps : List P} {vs : List V} {os : List O} (h : ArgR K B H σ S ps vs os) (r : Rp K B H σ e S) (n : (bs ps).Nodup) : Rp K B H (vs.map some) (os.map some) (argS ps S) := by
  obtain ⟨l1, l2⟩ := h.len
  refine ⟨by rw [List.length_map, List.length_map, l1, l2], r.ex, fun k o ho => ?_, fun k l a ⟨i, h1, h2⟩ ⟨j, h3, h4⟩ => ?_, fun k a ⟨i, h1, h2⟩ => r.own i a h2⟩
  · rw [List.getElem?_map] at ho
    obtain ⟨o', ho, eo⟩ := Option.map_eq_some_iff.mp ho
    cases eo
    obtain ⟨v, a, b, _⟩ := h.at ho
    exact ⟨v, by rw [List.getElem?_map, a]; rfl, b⟩
  · obtain rfl := r.dis i j a h2 h4
    exact bs_inj n h1 h3
theorem tot_argS {ps : List P} {a : Addr} (h : tot (argS ps S) a) : tot S a := let ⟨_, i, _, z⟩ := h; ⟨i, z⟩
/-- behind the call: the slots handed on as the callee left them, the others as they were -/
def retS (ps : List P) (S S1 : Nat → Addr → Prop) : Nat → Addr → Prop := fun j a => (∃ k : Nat, ps[k]? = some (P.b j) ∧ S1 k a) ∨ ((∀ k : Nat, ps[k]? ≠ some (P.b j)) ∧ S j a)
theorem back_rp {ps : List P} {vs : List V} {os os' : List O} {B1 H1 : Hp} {S1 : Nat → Addr → Prop} {T : Addr → Prop} (h : ArgR K B H σ S ps vs os) (r : Rp K B H σ e S) (n : (bs ps).Nodup) (l : os'.length = ps.length)
    (r1 : Rp K B1 H1 (vs.map some) (os'.map some) S1) (f : Fr B H (tot (argS ps S)) B1 H1 (fun a => T a ∨ tot S1 a)) :
    Rp K B1 H1 σ (wb ps os' e) (retS ps S S1) ∧ Fr B H (tot S) B1 H1 (fun a => T a ∨ tot (retS ps S S1) a) ∧ ∀ a, T a → (∀ k, ¬ S1 k a) → ¬ tot (retS ps S S1) a := by
  obtain ⟨l1, l2⟩ := h.len
  have fr0 : ∀ j : Nat, (∀ k : Nat, ps[k]? ≠ some (P.b j)) → ∀ a, S j a → ¬ tot (argS ps S) a := fun j hj a ha ⟨k, i, h1, h2⟩ => by
    obtain rfl := r.dis j i a ha h2
    exact hj k h1
  have nt : ∀ j : Nat, (∀ k : Nat, ps[k]? ≠ some (P.b j)) → ∀ a, S j a → ¬ (T a ∨ tot S1 a) := fun j hj a ha z => by
    rcases f.n a z with y | y
    · exact fr0 j hj a ha y
    · obtain ⟨_, u, hu⟩ := r.own j a ha
      rw [hu] at y; cases y
  refine ⟨⟨by rw [wb_length]; exact r.len, r1.ex, fun j o ho => ?_, fun i j a h1 h2 => ?_, fun j a h1 => ?_⟩, ⟨f.b, fun a o q hs => f.k a o q fun z => hs (tot_argS z), fun a z => ?_, fun a o q => (f.c a o q).elim .inl fun z => .inr (z.elim (fun z => .inl (tot_argS z)) .inr), f.a⟩, fun a ht hn ⟨j, z⟩ => ?_⟩
  · rcases wb_at l ho with ⟨k, a, b⟩ | ⟨a, b⟩
    · obtain ⟨v, hv, ro⟩ := r1.rep k o (by rw [List.getElem?_map, b]; rfl)
      rw [List.getElem?_map] at hv
      obtain ⟨v', hv, ev⟩ := Option.map_eq_some_iff.mp hv
      cases ev
      have hk : k < os.length := by
        have := (List.getElem?_eq_some_iff.mp b).1
        omega
      obtain ⟨v2, e1, _, e2⟩ := h.at (List.getElem?_eq_getElem hk)
      rw [hv] at e1; cases e1
      refine ⟨v, e2 j a, ro.iff fun x => ⟨fun z => .inl ⟨k, a, z⟩, fun z => ?_⟩⟩
      rcases z with ⟨k', a', z⟩ | ⟨a', z⟩
      · rw [bs_inj n a a']; exact z
      · exact absurd a (a' k)
    · obtain ⟨v, hv, ro⟩ := r.rep j o b
      obtain ⟨ro2, _, _⟩ := ro.frame (r.own j) (fr0 j a) f
      refine ⟨v, hv, ro2.iff fun x => ⟨fun z => .inr ⟨a, z⟩, fun z => ?_⟩⟩
      rcases z with ⟨k', a', z⟩ | ⟨a', z⟩
      · exact absurd a' (a k')
      · exact z
  · rcases h1 with ⟨k, a1, z1⟩ | ⟨a1, z1⟩ <;> rcases h2 with ⟨k', a2, z2⟩ | ⟨a2, z2⟩
    · obtain rfl := r1.dis k k' a z1 z2
      rw [a1] at a2; cases a2; rfl
    · exact absurd (.inr ⟨k, z1⟩) (nt j a2 a z2)
    · exact absurd (.inr ⟨k', z2⟩) (nt i a1 a z1)
    · exact r.dis i j a z1 z2
  · rcases h1 with ⟨k, a1, z1⟩ | ⟨a1, z1⟩
    · exact r1.own k a z1
    · obtain ⟨v, hv, ro⟩ : True ∧ True ∧ True := ⟨trivial, trivial, trivial⟩
      obtain ⟨b0, u, hu⟩ := r.own j a z1
      have hk := f.k a u hu (fr0 j a1 a z1)
      refine ⟨?_, u, hk⟩
      cases q : B1 a with
      | none => rfl
      | some w =>
        rcases f.c a w q with z | z | z
        · rw [b0] at z; cases z
        · exact absurd z (fr0 j a1 a z1)
        · rw [hu] at z; cases z
  · rcases z with z | ⟨j, z⟩
    · rcases f.n a (.inl z) with y | y
      · exact .inl (tot_argS y)
      · exact .inr y
    · rcases z with ⟨k, a1, z1⟩ | ⟨a1, z1⟩
      · rcases f.n a (.inr ⟨k, z1⟩) with y | y
        · exact .inl (tot_argS y)
        · exact .inr y
      · exact .inl ⟨j, z1⟩
  · rcases z with ⟨k, a1, z1⟩ | ⟨a1, z1⟩
    · exact hn k z1
    · exact nt j a1 a z1 (.inl ht)
/-- default values behind the written arguments -/
theorem ArgR.dv : ∀ {ps : List P} {vs : List V} {os : List O} {ws : List V} {ds : List D}, ArgR K B H σ S ps vs os → RepL K B ws ds → ArgR K B H σ S (ps ++ ds.map fun d => P.v (eC d)) (vs ++ ws) (os ++ ds.map O.fr)
  | [], [], [], [], [], _, .nil => trivial
  | [], [], [], _ :: _, _ :: _, h, .cons r rs => ⟨⟨r, fun _ z => z⟩, ArgR.dv (ps := []) (vs := []) (os := []) trivial rs⟩
  | .b i :: ps, v :: vs, o :: os, ws, ds, h, r => ⟨h.1, h.2.1, ArgR.dv h.2.2 r⟩
  | .v _ :: ps, v :: vs, o :: os, ws, ds, h, r => ⟨h.1, ArgR.dv h.2 r⟩
  | [], _ :: _, _, _, _, h, _ => h.elim
  | [], [], _ :: _, _, _, h, _ => h.elim
  | .b _ :: _, [], _, _, _, h, _ => h.elim
  | .b _ :: _, _ :: _, [], _, _, h, _ => h.elim
  | .v _ :: _, [], _, _, _, h, _ => h.elim
  | .v _ :: _, _ :: _, [], _, _, h, _ => h.elim
theorem bs_dv : ∀ (ps : List P) (ds : List D), bs (ps ++ ds.map fun d => P.v (eC d)) = bs ps
  | [], [] => rfl
  | [], d :: ds => by show bs (ds.map fun d => P.v (eC d)) = []; exact bs_dv [] ds
  | .b i :: ps, ds => congrArg (i :: ·) (bs_dv ps ds)
  | .v _ :: ps, ds => bs_dv ps ds
theorem wb_dv : ∀ (ps : List P) (ds : List D) (os : List O) (e : Sl), wb (ps ++ ds.map fun d => P.v (eC d)) os e = wb ps os e
  | [], [], os, e => rfl
  | [], d :: ds, [], e => rfl
  | [], d :: ds, o :: os, e => by
    show wb (ds.map fun d => P.v (eC d)) os e = e
    exact wb_dv [] ds os e
  | .b i :: ps, ds, [], e => rfl
  | .v _ :: ps, ds, [], e => rfl
  | .b i :: ps, ds, o :: os, e => by
    show (wb (ps ++ ds.map fun d => P.v (eC d)) os e).set i (some o) = (wb ps os e).set i (some o)
    rw [wb_dv ps ds os e]
  | .v _ :: ps, ds, o :: os, e => by
    show wb (ps ++ ds.map fun d => P.v (eC d)) os e = wb ps os e
    rw [wb_dv ps ds os e]
end

/-- a def of the module, by its name: what it computes -/
structure Cl (P : Program) (w : World) (K : PySem.W.Frag) (mg : Str → Option Value) (base : Heap) (k : Nat) (x : Str) (n : Nat) (F : Fn) (dv : List D) : Prop where
  ex : ∃ (f : Addr) (fd : FuncData) (ps : List Str) (ds : List Value) (dvs : List V), ps.length = n ∧ FnOk P w K mg base (L2N.CX P w) k f fd ps (spD K mg ps.length F) ∧ mg x = some (.ref f) ∧ PySem.W.keepIn K (.ref f) = true ∧ Binds K fd ps ds ∧ Vals dvs ds ∧ ∀ B, RepL K B dvs dv
theorem Cl.mono {P : Program} {w : World} {K : PySem.W.Frag} {mg : Str → Option Value} {base : Heap} {k l n : Nat} {x : Str} {F : Fn} {dv : List D} (h : Cl P w K mg base k x n F dv) (hl : k ≤ l) : Cl P w K mg base l x n F dv := by
  obtain ⟨f, fd, ps, ds, dvs, h0, h1, h2⟩ := h.ex
  exact ⟨f, fd, ps, ds, dvs, h0, h1.mono hl, h2⟩
section
variable {X : Cx} {W : WX} {x : Str} {p pos : Pos} {e : Expr} {es : List Expr} {k j n : Nat} {F : Fn} {dv : List D} {ps : List P}
theorem call_core {H : Hp} {σ : St} {Q : VK} {dvs : List V} (hl : dvs.length = dv.length) (hn : n = ps.length + dv.length) (nd : (bs ps).Nodup) (hdv : ∀ B, RepL X.K B dvs dv) (h : tE X.K X.mg W (eCall F ps dv) σ H Q) :
    tPs X.K X.mg W ps σ H fun vs H1 => spD X.K X.mg n F (vs ++ dvs) H1 Q (WE W σ) := by
  obtain ⟨B, e, S, r, h⟩ := h
  refine cops_run ps _ r (h.bind.imp (fun os e' h vs B' H' S' r' ar f => ?_) fun _ _ z => z)
  have ar2 := ar.dv (hdv B')
  have nd2 : (bs (ps ++ dv.map fun d => P.v (eC d))).Nodup := by rw [bs_dv]; exact nd
  obtain ⟨l1, l2⟩ := ar2.len
  have lp : (ps ++ dv.map fun d => P.v (eC d)).length = ps.length + dv.length := by rw [List.length_append, List.length_map]
  refine ⟨by rw [l1, lp, hn], B', _, _, ar2.rp r' nd2, ?_⟩
  have h0 : Post (match F (os ++ dv.map .fr) with
    | none => none
    | some (.ok o os') => some (Ro.ok o (wb ps os' e'))
    | some (.ex x os') => some (.ex x (wb ps os' e'))) (fun o e' => ∀ v B' H' S' T, Vl X.K B' H' σ e' S' v o T → Fr B H (tot S) B' H' (fun a => T a ∨ tot S' a) → Q v H') (fun x e' => ExE X.K X.mg W B H S σ x e') := h
  cases q : F (os ++ dv.map .fr) with
  | none => rw [q] at h0; exact h0.elim
  | some rf =>
    rw [q] at h0
    cases rf with
    | ok o os' =>
      intro v B1 H1 S1 T lo vl f1
      have lo' : os'.length = (ps ++ dv.map fun d => P.v (eC d)).length := by rw [lo, l1]
      obtain ⟨r3, f3, dj⟩ := back_rp ar2 r' nd2 lo' vl.rp f1
      rw [wb_dv] at r3
      have h' : ∀ v B' H' S' T, Vl X.K B' H' σ (wb ps os' e') S' v o T → Fr B H (tot S) B' H' (fun a => T a ∨ tot S' a) → Q v H' := h0
      exact h' v B1 H1 _ T ⟨r3, vl.ro, vl.own, fun a ha => dj a ha fun k z => vl.dj a ha ⟨k, z⟩⟩ (f.trans f3)
    | ex x os' =>
      intro C d fs B1 H1 S1 lo hC r1 hd hf hdn f1
      have lo' : os'.length = (ps ++ dv.map fun d => P.v (eC d)).length := by rw [lo, l1]
      obtain ⟨r3, f3, _⟩ := back_rp (T := noS) ar2 r' nd2 lo' r1 (f1.imp (fun _ z => z) fun a z => z.elim (fun z => z.elim) id)
      rw [wb_dv] at r3
      have h' : ExE X.K X.mg W B H S σ x (wb ps os' e') := h0
      exact h' C d fs B1 H1 _ hC r3 hd hf (f.back hdn) ((f.trans f3).imp (fun _ z => z) fun _ z => .inr z)
theorem d_call (C : Cl X.prog X.w X.K X.mg X.base k x n F dv) (hr : Room j X.A) (tk : L2N.Takes X W) (ha : PA X (e :: es) (tPs X.K X.mg W ps)) (hk : k ≤ j := by decide) (hg : Gl X x := by rfl) (hn : n = ps.length + dv.length := by rfl) (nd : (bs ps).Nodup := by decide)
    (hdb : (x == ("__debug__" : Str)) = false := by decide) (he : starEach (e :: es) X.env = (false, eval e X.env) :: starEach es X.env := by rfl) (hpl : (backTo pos (starEach es X.env)).any (·.1) = false := by rfl) :
    PE X (.Call (.Name x p) (e :: es) [] pos) (tE X.K X.mg W (eCall F ps dv)) := by
  obtain ⟨f, fd, pn, ds, dvs, h0, h1, h2, h3, h4, h5, h6⟩ := C.ex
  have hl : dvs.length = dv.length := (h6 fun _ => none).length
  refine ⟨fun pins s σ H Q I h => ?_⟩
  refine (pe_callSD (t := tPs X.K X.mg W ps) (E := WE W) h1 (hr.mono hk) hg h2 h3 h4 h5 (fun σ => L2N.passAt tk σ) ha hdb he hpl).run pins s σ H Q I ?_
  exact call_core hl (h0.trans hn) nd h6 h
end
end Dn

namespace Dn
open PySem L2
open PyProof.Rows (envOfC)
open Evl (Ex)

/-! ## 10. A def by its body -/
/-- what the parameters hold behind the body: those of ks as they stand, the others as they came (frozen) -/
def finO (ks : List Nat) : Nat → List O → Sl → Option (List O)
  | _, [], _ => some []
  | k, o :: os, e => match (if k ∈ ks then (match e[k]? with | some (some o') => some o' | _ => none) else (match o with | .fr d => some (.fr d) | _ => none)) with
    | some o' => (finO ks (k + 1) os e).map (o' :: ·)
    | none => none
def mkF (m : Nat) (ks : List Nat) (g : M Fl) : Fn := fun os => match g (os.map some ++ List.replicate (m - os.length) none) with
  | some (.ok fl e') => match fl with
    | .ret o => (finO ks 0 os e').map (RF.ok o)
    | .next => (finO ks 0 os e').map (RF.ok (.fr .non))
    | _ => none
  | some (.ex x e') => (finO ks 0 os e').map (RF.ex x)
  | none => none
theorem finO_at {ks : List Nat} : ∀ {os : List O} {j : Nat} {e : Sl} {os' : List O}, finO ks j os e = some os' → os'.length = os.length ∧ ∀ k o', os'[k]? = some o' → (j + k ∈ ks ∧ e[j + k]? = some (some o')) ∨ (j + k ∉ ks ∧ os[k]? = some o' ∧ ∃ d, o' = .fr d)
  | [], j, e, os', h => by
    cases h
    exact ⟨rfl, fun k o' z => by simp at z⟩
  | o :: os, j, e, os', h => by
    unfold finO at h
    split at h
    · rename_i o1 h1
      obtain ⟨os1, h2, rfl⟩ := Option.map_eq_some_iff.mp h
      obtain ⟨l, at_⟩ := finO_at h2
      refine ⟨by rw [List.length_cons, List.length_cons, l], fun k o' z => ?_⟩
      cases k with
      | zero =>
        have z' : some o1 = some o' := z
        cases z'
        by_cases hj : j ∈ ks
        · rw [if_pos hj] at h1
          refine .inl ⟨hj, ?_⟩
          split at h1
          · rename_i o2 h3
            cases h1; exact h3
          · cases h1
        · rw [if_neg hj] at h1
          refine .inr ⟨hj, ?_⟩
          split at h1
          · cases h1; exact ⟨rfl, _, rfl⟩
          · cases h1
      | succ k =>
        have := at_ k o' z
        rw [show j + (k + 1) = j + 1 + k by omega]
        exact this
    · cases h
section
variable {P : Program} {w : World} {K : PySem.W.Frag} {mg : Str → Option Value} {base : Heap}
theorem fin_rp {B H : Hp} {vs : List V} {os os' : List O} {S : Nat → Addr → Prop} {ks : List Nat} {B' H' : Hp} {σ σ' : St} {e' : Sl} {S' : Nat → Addr → Prop} (r : Rp K B H (vs.map some) (os.map some) S) (hf : finO ks 0 os e' = some os') (hσ : ∀ k : Nat, k < vs.length → σ[k]? = (vs.map some)[k]?)
    (r' : Rp K B' H' σ' e' S') (k' : Kp ks σ σ') (hb : Ex B B') : os'.length = vs.length ∧ Rp K B' H' (vs.map some) (os'.map some) (fun k => if k ∈ ks then S' k else noS) := by
  obtain ⟨l, at_⟩ := finO_at hf
  have l2 : vs.length = os.length := by have := r.len; rwa [List.length_map, List.length_map] at this
  refine ⟨by omega, ⟨by rw [List.length_map, List.length_map]; omega, r'.ex, fun k o ho => ?_, fun i j a h1 h2 => ?_, fun i a h1 => ?_⟩⟩
  · rw [List.getElem?_map] at ho
    obtain ⟨o1, ho, e1⟩ := Option.map_eq_some_iff.mp ho
    cases e1
    have hk : k < vs.length := by have := (List.getElem?_eq_some_iff.mp ho).1; omega
    rcases at_ k o ho with ⟨a, b⟩ | ⟨a, b, d, rfl⟩
    · rw [Nat.zero_add] at a b
      obtain ⟨v, hv, ro⟩ := r'.rep k o b
      rw [k' k a, hσ k hk] at hv
      exact ⟨v, hv, by rw [if_pos a]; exact ro⟩
    · rw [Nat.zero_add] at a
      obtain ⟨v, hv, ro⟩ := r.rep k _ (show (os.map some)[k]? = some (some (O.fr d)) by rw [List.getElem?_map, b]; rfl)
      exact ⟨v, hv, by rw [if_neg a]; exact ⟨ro.1.mono hb, fun _ z => z⟩⟩
  · by_cases hi : i ∈ ks
    · by_cases hj : j ∈ ks
      · rw [if_pos hi] at h1; rw [if_pos hj] at h2; exact r'.dis i j a h1 h2
      · rw [if_neg hj] at h2; exact h2.elim
    · rw [if_neg hi] at h1; exact h1.elim
  · by_cases hi : i ∈ ks
    · rw [if_pos hi] at h1; exact r'.own i a h1
    · rw [if_neg hi] at h1; exact h1.elim
theorem tot_fin {ks : List Nat} {S' : Nat → Addr → Prop} {a : Addr} (h : tot (fun k => if k ∈ ks then S' k else noS) a) : tot S' a := by
  obtain ⟨k, h⟩ := h
  by_cases hk : k ∈ ks
  · rw [if_pos hk] at h; exact ⟨k, h⟩
  · rw [if_neg hk] at h; exact h.elim
/-- a def as it stands behind the top, its defaults aside -/
structure FunX (K : PySem.W.Frag) (x qual : Str) (st : Stmt) (f : Addr) (fd : FuncData) : Prop where
  ex : ∃ (oc : Value) (od : Option Addr) (dV kV doc pm : Value) (an : Option Addr) (cdv ct : Value) (osl : Array (Option Value)),
    fd = PySem.W.fnOf x qual (defArgs st) (defBody st) (defScope st) dV kV doc pm an cdv ct ∧ K.lookup f = some ⟨oc, od, .func fd, osl⟩ ∧ PySem.W.codeIn K cdv qual = true
theorem fun_x {x qual : Str} {st : Stmt} {f : Addr} {fd : FuncData} (F : Fun K x qual st f fd) : FunX K x qual st f fd := by
  obtain ⟨oc, od, kV, doc, pm, an, cdv, ct, osl, h⟩ := F.ex
  exact ⟨⟨oc, od, .none, kV, doc, pm, an, cdv, ct, osl, h⟩⟩
theorem FunX.okX {x qual : Str} {st : Stmt} {f : Addr} {fd : FuncData} {N ps : List Str} {k : Nat} {sp : Sp} (F : FunX K x qual st f fd) (S : FnScope N ps (defScope st)) (len : ∀ vs H Q E, sp vs H Q E → vs.length = ps.length)
    (hbody : ∀ (cdv : Value) (A : Around) (outer : List PySem.Env) (s : Shared) (H : Hp) (vs : List V) (Q : VK) (E : XK), Room k (A.deeper (envOfC qual (defScope st) s.heap.objs.size f cdv)) → sp vs H Q E →
      ∃ t, PSs (cxOf (L2N.CX P w) P w K mg base N qual (defScope st) f cdv A outer s H E) (defBody st) t ∧ t { nx := fun _ H' => Q .non H', rt := Q } (start N vs) H) : FnOk P w K mg base (L2N.CX P w) (k + 1) f fd ps sp := by
  obtain ⟨oc, od, dV, kV, doc, pm, an, cdv, ct, osl, rfl, lk, hcd⟩ := F.ex
  exact fn_of lk hcd S len fun A outer s H vs Q E hr hsp => hbody cdv A outer s H vs Q E hr hsp
theorem den_core {N ps : List Str} {sc : Scope} {ks : List Nat} {g : M Fl} (Sc : FnScope N ps sc) {vs : List V} {H : Hp} {Q : VK} {E : XK} (h : spD K mg ps.length (mkF N.length ks g) vs H Q E) :
    tS K mg (fun cls d _ H => E cls d H) ks g { nx := fun _ H' => Q .non H', rt := Q } (L2.start N vs) H := by
  obtain ⟨hl, B, os, S, r, h⟩ := h
  have l2 : vs.length = os.length := by have := r.len; rwa [List.length_map, List.length_map] at this
  have hpl : ps.length ≤ N.length := by have := congrArg List.length Sc.pre; rw [List.length_take] at this; omega
  have hσ : ∀ k : Nat, k < vs.length → (L2.start N vs)[k]? = (vs.map some)[k]? := fun k hk => by
    unfold L2.start
    rw [List.getElem?_append_left (by rw [List.length_map]; exact hk)]
  have r0 : Rp K B H (L2.start N vs) (os.map some ++ List.replicate (N.length - os.length) none) S := by
    refine ⟨by unfold L2.start; rw [List.length_append, List.length_append, List.length_map, List.length_map, List.length_replicate, List.length_replicate]; omega, r.ex, fun i o ho => ?_, r.dis, r.own⟩
    by_cases hi : i < os.length
    · rw [List.getElem?_append_left (by rw [List.length_map]; exact hi)] at ho
      obtain ⟨v, a, b⟩ := r.rep i o ho
      exact ⟨v, by rw [hσ i (by omega)]; exact a, b⟩
    · rw [List.getElem?_append_right (by rw [List.length_map]; omega), List.length_map, List.getElem?_replicate] at ho
      split at ho <;> cases ho
  refine ⟨B, _, S, r0, ?_⟩
  unfold mkF at h
  cases q : g (os.map some ++ List.replicate (N.length - os.length) none) with
  | none => rw [q] at h; exact h.elim
  | some ro =>
    rw [q] at h
    cases ro with
    | ex x e' =>
      dsimp only at h
      cases qf : finO ks 0 os e' with
      | none => rw [qf] at h; exact h.elim
      | some os' =>
        rw [qf] at h
        intro C d fs σ' B' H' S' hC r' hd hx hdn k' f'
        obtain ⟨l3, r2⟩ := fin_rp r qf hσ r' k' f'.b
        exact (show RetP K mg B H (tot S) vs Q E (some (.ex x os')) from h) C d fs B' H' _ l3 hC r2 hd hx hdn (f'.imp (fun _ z => z) fun _ z => tot_fin z)
    | ok fl e' =>
      cases fl with
      | brk => exact h.elim
      | cnt => exact h.elim
      | next =>
        dsimp only at h
        cases qf : finO ks 0 os e' with
        | none => rw [qf] at h; exact h.elim
        | some os' =>
          rw [qf] at h
          intro σ' B' H' S' r' k' f'
          obtain ⟨l3, r2⟩ := fin_rp r qf hσ r' k' f'.b
          exact (show RetP K mg B H (tot S) vs Q E (some (.ok (.fr .non) os')) from h) .non B' H' _ noS l3 (.fr r2 .non) (f'.imp (fun _ z => z) fun _ z => z.elim (fun z => z.elim) tot_fin)
      | ret o =>
        dsimp only at h
        cases qf : finO ks 0 os e' with
        | none => rw [qf] at h; exact h.elim
        | some os' =>
          rw [qf] at h
          intro v σ' B' H' S' T vl k' f'
          obtain ⟨l3, r2⟩ := fin_rp r qf hσ vl.rp k' f'.b
          exact (show RetP K mg B H (tot S) vs Q E (some (.ok o os')) from h) v B' H' _ T l3 ⟨r2, vl.ro, vl.own, fun a ha z => vl.dj a ha (tot_fin z)⟩ (f'.imp (fun _ z => z) fun _ z => z.elim .inl fun z => .inr (tot_fin z))
/-- THE RULE of a def -/
theorem fn_den {x qual : Str} {st : Stmt} {f : Addr} {fd : FuncData} {N ps : List Str} {k : Nat} {ks : List Nat} {g : M Fl} (F : FunX K x qual st f fd) (Sc : FnScope N ps (defScope st))
    (hb : ∀ (cdv : Value) (A : Around) (outer : List PySem.Env) (s : Shared) (H : Hp) (E : XK), Room k (A.deeper (envOfC qual (defScope st) s.heap.objs.size f cdv)) →
      L2N.Takes (cxOf (L2N.CX P w) P w K mg base N qual (defScope st) f cdv A outer s H E) (fun cls d _ H => E cls d H) →
      PassesOwn (model P w) (A.deeper (envOfC qual (defScope st) s.heap.objs.size f cdv)) (envOfC qual (defScope st) s.heap.objs.size f cdv) (cxOf (L2N.CX P w) P w K mg base N qual (defScope st) f cdv A outer s H E).xe →
      PSs (cxOf (L2N.CX P w) P w K mg base N qual (defScope st) f cdv A outer s H E) (defBody st) (tS K mg (fun cls d _ H => E cls d H) ks g)) :
    FnOk P w K mg base (L2N.CX P w) (k + 1) f fd ps (spD K mg ps.length (mkF N.length ks g)) := by
  exact F.okX Sc (fun vs H Q E h => h.1) (fun cdv A outer s H vs Q E hr h => ⟨_, hb cdv A outer s H E hr (L2N.takes_of rfl rfl rfl rfl) (passes_of rfl), den_core Sc h⟩)
end

/-! ## 11. Data as the library has it -/
mutual
def D.py : D → PyData
  | .non => .none
  | .bl b => .bool b
  | .int i => .int i
  | .str s => .str s
  | .lst xs => .list (D.pys xs)
  | .tup xs => .tuple (D.pys xs)
  | .scr ns => .list (ns.map PyData.int)
  | .opq => .str ⟨#[1114112]⟩
  | .dct _ _ => .str ⟨#[1114112]⟩
  | .ins _ _ _ => .str ⟨#[1114112]⟩
def D.pys : List D → List PyData
  | [] => []
  | x :: xs => x.py :: D.pys xs
end
mutual
/-- all of it is known -/
def D.nx : D → Bool
  | .non => true
  | .bl _ => true
  | .int _ => true
  | .str _ => true
  | .lst xs => D.nxs xs
  | .tup xs => D.nxs xs
  | .scr _ => true
  | .opq => false
  | .dct _ _ => false
  | .ins _ _ _ => false
def D.nxs : List D → Bool
  | [] => true
  | x :: xs => D.nx x && D.nxs xs
end
mutual
theorem D.nx_of : ∀ {d : D}, d.py.canLay0 = true → d.nx = true
  | .non, _ => rfl
  | .bl _, _ => rfl
  | .int _, _ => rfl
  | .str _, _ => rfl
  | .lst xs, h => by rw [D.nx]; exact D.nxs_of (by rw [D.py] at h; exact h)
  | .tup xs, h => by rw [D.nx]; exact D.nxs_of (by rw [D.py] at h; exact h)
  | .scr _, _ => rfl
  | .opq, h => by
    have : PyData.canLay0 (.str ⟨#[1114112]⟩) = false := by decide +kernel
    rw [D.py, this] at h
    cases h
  | .dct _ _, h => by
    have : PyData.canLay0 (.str ⟨#[1114112]⟩) = false := by decide +kernel
    rw [D.py, this] at h
    cases h
  | .ins _ _ _, h => by
    have : PyData.canLay0 (.str ⟨#[1114112]⟩) = false := by decide +kernel
    rw [D.py, this] at h
    cases h
theorem D.nxs_of : ∀ {ds : List D}, PyData.canLayAll0 (D.pys ds) = true → D.nxs ds = true
  | [], _ => rfl
  | x :: xs, h => by
    rw [D.pys] at h
    have h' : (x.py.canLay0 && PyData.canLayAll0 (D.pys xs)) = true := h
    rw [Bool.and_eq_true] at h'
    rw [D.nxs, D.nx_of h'.1, D.nxs_of h'.2]; rfl
end
theorem D.pys_map : ∀ xs : List D, D.pys xs = xs.map D.py
  | [] => rfl
  | x :: xs => by rw [D.pys, List.map_cons, D.pys_map xs]
section
variable {K : PySem.W.Frag} {B H : Hp}
theorem dp_ints : ∀ ns : List Int, DpAll K H (ns.map V.int) (ns.map PyData.int)
  | [] => .nil
  | n :: ns => .cons (.int n) (dp_ints ns)
mutual
theorem Rep.dp : ∀ {v : V} {d : D}, Rep K H v d → d.nx = true → Dp K H v d.py
  | _, _, .non, _ => by rw [D.py]; exact .non
  | _, _, .bl b, _ => by rw [D.py]; exact .bl b
  | _, _, .int i, _ => by rw [D.py]; exact .int i
  | _, _, .str x, _ => by rw [D.py]; exact .str x
  | _, _, .lst h hs, n => by rw [D.py]; exact .lst (Evl.sq_of h) (RepL.dp hs (by rw [D.nx] at n; exact n))
  | _, _, .tup h hs, n => by rw [D.py]; exact .tup h.sq (RepL.dp hs (by rw [D.nx] at n; exact n))
  | _, _, .scr h, _ => by rw [D.py]; exact .lst h (dp_ints _)
  | _, _, .opq _, n => by rw [D.nx] at n; cases n
  | _, _, .dct _ _ _, n => by rw [D.nx] at n; cases n
  | _, _, .ins _ _ _ _, n => by rw [D.nx] at n; cases n
theorem RepL.dp : ∀ {vs : List V} {ds : List D}, RepL K H vs ds → D.nxs ds = true → DpAll K H vs (D.pys ds)
  | _, _, .nil, _ => by rw [D.pys]; exact .nil
  | _, _, .cons h hs, n => by
    rw [D.nxs, Bool.and_eq_true] at n
    rw [D.pys]; exact .cons (Rep.dp h n.1) (RepL.dp hs n.2)
end
end
def shp (d : D) : Bool := SeqAt.shaped d.py
theorem shp_nx {d : D} (h : shp d = true) : d.nx = true := D.nx_of (by unfold shp SeqAt.shaped at h; rw [Bool.and_eq_true] at h; exact h.1)
def D.eqv (a b : D) : Bool := PyData.eqv a.py b.py

/-! ## 12. Operations -/
@[reducible] def bO (b : Bool) : O := .fr (.bl b)
@[reducible] def iO (i : Int) : O := .fr (.int i)
@[reducible] def sO (s : Str) : O := .fr (.str s)
def mulOk (i j : Int) : Bool := decide (-(2 ^ 64) < i ∧ i < 2 ^ 64) || decide (-(2 ^ 64) < j ∧ j < 2 ^ 64)
def gAdd : List D → Option O
  | [.int i, .int j] => some (iO (i + j))
  | [.str a, .str b] => if a.length + b.length ≤ sizeLine then some (sO (a ++ b)) else none
  | [.lst a, .lst b] => if a.length + b.length ≤ sizeLine then some (.lst (a ++ b)) else none
  | [.tup a, .tup b] => if a.length + b.length ≤ sizeLine then some (.fr (.tup (a ++ b))) else none
  | _ => none
def gSub : List D → Option O
  | [.int i, .int j] => some (iO (i - j))
  | _ => none
def gMul : List D → Option O
  | [.int i, .int j] => if mulOk i j then some (iO (i * j)) else none
  | _ => none
def gDiv : List D → Option O
  | [.int i, .int j] => if j ≠ 0 ∧ j.natAbs < 1073741824 then some (iO (i.fdiv j)) else none
  | _ => none
def gMod : List D → Option O
  | [.int i, .int j] => if j ≠ 0 then some (iO (i.fmod j)) else none
  | _ => none
def gPow : List D → Option O
  | [.int i, .int j] => if 0 ≤ j ∧ j ≤ 1000000 ∧ i.natAbs < 2 ^ 64 then some (iO (i ^ j.toNat)) else none
  | _ => none
def gNeg : List D → Option O
  | [.int i] => some (iO (-i))
  | _ => none
def gEq : List D → Option O
  | [.int i, .int j] => some (bO (decide (i = j)))
  | [.str i, .str j] => some (bO (decide (i = j)))
  | [.bl i, .bl j] => some (bO (decide (i = j)))
  | [a, b] => if shp a && shp b then some (bO (D.eqv a b)) else none
  | _ => none
def gNe : List D → Option O
  | [.int i, .int j] => some (bO (!decide (i = j)))
  | [.str i, .str j] => some (bO (!decide (i = j)))
  | [.bl i, .bl j] => some (bO (!decide (i = j)))
  | [a, b] => if shp a && shp b then some (bO (!D.eqv a b)) else none
  | _ => none
/-- two that can be compared by order -/
def ordOk (a b : D) : Bool := a.nx && b.nx && W.alike a.py b.py && (match a with | .non => false | _ => true) && decide (min a.py.depth b.py.depth ≤ 64)
def gLt : List D → Option O
  | [.int i, .int j] => some (bO (decide (i < j)))
  | [a, b] => if ordOk a b then some (bO (W.dataLt a.py b.py)) else none
  | _ => none
def gGt : List D → Option O
  | [.int i, .int j] => some (bO (decide (j < i)))
  | [a, b] => if ordOk a b then some (bO (W.dataLt b.py a.py)) else none
  | _ => none
def gLe : List D → Option O
  | [.int i, .int j] => some (bO (decide (i ≤ j)))
  | [a, b] => if ordOk a b then some (bO (!W.dataLt b.py a.py)) else none
  | _ => none
def gGe : List D → Option O
  | [.int i, .int j] => some (bO (decide (j ≤ i)))
  | [a, b] => if ordOk a b then some (bO (!W.dataLt a.py b.py)) else none
  | _ => none
def gIsN : List D → Option O
  | [.non, .non] => some (bO true)
  | [.opq, .non] => none
  | [_, .non] => some (bO false)
  | [.bl a, .bl b] => some (bO (decide (a = b)))
  | _ => none
def gNotN : List D → Option O
  | [.non, .non] => some (bO false)
  | [.opq, .non] => none
  | [_, .non] => some (bO true)
  | [.bl a, .bl b] => some (bO (!decide (a = b)))
  | _ => none
def inStr (s z : Str) : Bool := match s.cps.toList with
  | [c] => decide (c ∈ z.cps.toList)
  | _ => !(Builtin.Str.occurrences z s 0 z.length 1).isEmpty
def inL (x : D) (ds : List D) : Bool := ds.any fun y => D.eqv y x
/-- a key of a dict -/
def keyD : D → Option L2.Key
  | .int i => some (.inl i)
  | .str s => some (.inr s)
  | _ => none
/-- what stands at a key -/
def getK : List L2.Key → List D → L2.Key → Option D
  | k :: ks, d :: ds, j => if k = j then some d else getK ks ds j
  | _, _, _ => none
def gIn : List D → Option O
  | [.str s, .str z] => some (bO (inStr s z))
  | [x, .lst ds] => if shp x && shp (.lst ds) then some (bO (inL x ds)) else none
  | [x, .tup ds] => if shp x && shp (.tup ds) then some (bO (inL x ds)) else none
  | [x, .dct ks xs] => (keyD x).map fun k => bO (getK ks xs k).isSome
  | _ => none
def gNotIn : List D → Option O
  | [.str s, .str z] => some (bO (!inStr s z))
  | [x, .lst ds] => if shp x && shp (.lst ds) then some (bO (!inL x ds)) else none
  | [x, .tup ds] => if shp x && shp (.tup ds) then some (bO (!inL x ds)) else none
  | [x, .dct ks xs] => (keyD x).map fun k => bO (!(getK ks xs k).isSome)
  | _ => none
def gIx : List D → Option O
  | [.lst ds, .int i] => (atI ds i).map .fr
  | [.tup ds, .int i] => (atI ds i).map .fr
  | [.scr ns, .int i] => (atI ns i).map iO
  | [.str z, .int i] => if z.length ≤ sizeLine then (atI z.cps.toList i).map fun c => sO ⟨#[c]⟩ else none
  | [.dct ks xs, x] => (keyD x).bind fun k => (getK ks xs k).map .fr
  | _ => none
def gLen : List D → Option O
  | [.lst ds] => some (iO ds.length)
  | [.tup ds] => some (iO ds.length)
  | [.scr ns] => some (iO ns.length)
  | [.str z] => if z.length ≤ sizeLine then some (iO z.length) else none
  | _ => none
def gInt : List D → Option O
  | [.int i] => some (iO i)
  | [.bl b] => some (iO (if b then 1 else 0))
  | [.str z] => if z.length ≤ 640 then (PySem.intText? z).map iO else none
  | _ => none
def gAbs : List D → Option O
  | [.int i] => some (iO (if i < 0 then -i else i))
  | _ => none
def gOrd : List D → Option O
  | [.str z] => if z.length = 1 then some (iO (z.cps.getD 0 0 : Nat)) else none
  | _ => none
def gList : List D → Option O
  | [.lst ds] => some (.lst ds)
  | [.tup ds] => some (.lst ds)
  | [.scr ns] => some (.lst (ns.map .int))
  | _ => none
def gTuple : List D → Option O
  | [.lst ds] => some (.fr (.tup ds))
  | [.tup ds] => some (.fr (.tup ds))
  | _ => none
def boolsD : List D → Option (List Bool)
  | [] => some []
  | .bl b :: ds => (boolsD ds).map (b :: ·)
  | _ => none
def intsD : List D → Option (List Int)
  | [] => some []
  | .int b :: ds => (intsD ds).map (b :: ·)
  | _ => none
def strsD : List D → Option (List Str)
  | [] => some []
  | .str b :: ds => (strsD ds).map (b :: ·)
  | _ => none
def gAll : List D → Option O
  | [.lst ds] => (boolsD ds).map fun bs => bO (bs.all id)
  | _ => none
def gAny : List D → Option O
  | [.lst ds] => (boolsD ds).map fun bs => bO (bs.any id)
  | _ => none
def gSum : List D → Option O
  | [.lst ds] => (intsD ds).map fun bs => iO bs.sum
  | _ => none
end Dn

namespace Dn
open PySem L2
open Evl (Ex)

/-! ## 13. The operations are sound -/
theorem Rd.dp {K : PySem.W.Frag} {B H : Hp} {v : V} {d : D} (h : Rd K B H v d) (hx : Ex B H) (n : d.nx = true) : Dp K H v d.py := (h.rep hx).dp n
theorem snd_or1 {K : PySem.W.Frag} {r r' : R2} {g : List D → Option O} (h : Snd2 K r g) : Snd2 K (fun x y H Q => r x y H Q ∨ r' x y H Q) g := fun B H x y a b o h1 h2 h3 h4 Q q => .inl (h B H x y a b o h1 h2 h3 h4 Q q)

section
variable {X : Cx}
def rAddD (K : PySem.W.Frag) : R2 := fun x y H Q => (rI0 fun i j => .int (i + j)) x y H Q ∨ (fun x y H Q => ∃ i j, x = .str i ∧ y = .str j ∧ i.length + j.length ≤ sizeLine ∧ Q (.str (i ++ j)) H) x y H Q ∨ rCat x y H Q ∨ rCatA K x y H Q
theorem o_add : OpR X (binaryOp .Add) (rAddD X.K) := op_add.or (op_add_str.or (op_cat.or op_catA))
theorem n_add {K : PySem.W.Frag} : Snd2 K (rAddD K) gAdd := fun B H x y a b o hx ha hb hg Q q => by
  cases a <;> cases b <;> simp only [gAdd] at hg <;> (try cases hg)
  · cases ha; cases hb
    exact .inl ⟨_, _, rfl, rfl, q.fr hx (.int _)⟩
  · split at hg
    · cases hg; cases ha; cases hb
      exact .inr (.inl ⟨_, _, rfl, rfl, by assumption, q.fr hx (.str _)⟩)
    · cases hg
  · split at hg
    · rename_i hl
      cases hg
      obtain ⟨p, xs, rfl, h1, h2⟩ := ha
      obtain ⟨p', ys, rfl, h3, h4⟩ := hb
      exact .inr (.inr (.inl ⟨_, _, _, _, rfl, rfl, h1, h3, by rw [h2.length, h4.length]; exact hl, fun l hl => q.newL hx (h2.append h4) hl⟩))
    · cases hg
  · split at hg
    · rename_i hl
      cases hg
      cases ha with
      | tup h1 h2 =>
        cases hb with
        | tup h3 h4 =>
          refine .inr (.inr (.inr ⟨_, _, _, _, rfl, rfl, Evl.ex_t hx h1.sq, Evl.ex_t hx h3.sq, by rw [h2.length, h4.length]; exact hl, fun e => ?_, fun e e2 => ?_, fun e e2 p hp => ?_⟩))
          · subst e; cases h2
            exact q.fr hx (.tup h3 h4)
          · subst e2; cases h4
            rw [List.append_nil] at q
            exact q.fr hx (.tup h1 h2)
          · exact q.newT hx (h2.append h4) hp
    · cases hg
theorem n_sub {K : PySem.W.Frag} : Snd2 K (rI0 fun i j => .int (i - j)) gSub := fun B H x y a b o hx ha hb hg Q q => by
  cases a <;> cases b <;> simp only [gSub] at hg <;> (try cases hg)
  cases ha; cases hb
  exact ⟨_, _, rfl, rfl, q.fr hx (.int _)⟩
theorem n_mul {K : PySem.W.Frag} : Snd2 K (rI CMul fun i j => .int (i * j)) gMul := fun B H x y a b o hx ha hb hg Q q => by
  cases a <;> cases b <;> simp only [gMul] at hg <;> (try cases hg)
  split at hg
  · rename_i hc
    cases hg; cases ha; cases hb
    refine ⟨_, _, rfl, rfl, ?_, q.fr hx (.int _)⟩
    unfold mulOk at hc
    rw [Bool.or_eq_true] at hc
    exact hc.elim (fun z => .inl (of_decide_eq_true z)) fun z => .inr (of_decide_eq_true z)
  · cases hg
theorem n_div {K : PySem.W.Frag} : Snd2 K (rI CDivN fun i j => .int (i.fdiv j)) gDiv := fun B H x y a b o hx ha hb hg Q q => by
  cases a <;> cases b <;> simp only [gDiv] at hg <;> (try cases hg)
  split at hg
  · rename_i hc
    cases hg; cases ha; cases hb
    exact ⟨_, _, rfl, rfl, hc, q.fr hx (.int _)⟩
  · cases hg
theorem n_mod {K : PySem.W.Frag} : Snd2 K (rI (fun _ j => j ≠ 0) fun i j => .int (i.fmod j)) gMod := fun B H x y a b o hx ha hb hg Q q => by
  cases a <;> cases b <;> simp only [gMod] at hg <;> (try cases hg)
  split at hg
  · rename_i hc
    cases hg; cases ha; cases hb
    exact ⟨_, _, rfl, rfl, hc, q.fr hx (.int _)⟩
  · cases hg
theorem n_pow {K : PySem.W.Frag} : Snd2 K (rI CPow fun i j => .int (i ^ j.toNat)) gPow := fun B H x y a b o hx ha hb hg Q q => by
  cases a <;> cases b <;> simp only [gPow] at hg <;> (try cases hg)
  split at hg
  · rename_i hc
    cases hg; cases ha; cases hb
    exact ⟨_, _, rfl, rfl, hc, q.fr hx (.int _)⟩
  · cases hg
theorem n_neg {K : PySem.W.Frag} : Snd1 K (rU fun i => .int (-i)) gNeg := fun B H x a o hx ha hg Q q => by
  cases a <;> simp only [gNeg] at hg <;> (try cases hg)
  cases ha
  exact ⟨_, rfl, q.fr hx (.int _)⟩

/-! ### == and != -/
def rEqO (K : PySem.W.Frag) : R2 := fun x y H Q => rEq x y H Q ∨ rEqD K x y H Q
def rNeO (K : PySem.W.Frag) : R2 := fun x y H Q => rNe x y H Q ∨ rNeD K x y H Q
theorem o_eq (hu : X.A.units + 64 < cLine) : OpR X (compareOp .Eq) (rEqO X.K) := op_eq.or (op_eqD hu)
theorem o_ne (hu : X.A.units + 64 < cLine) : OpR X (compareOp .NotEq) (rNeO X.K) := op_ne.or (op_neD hu)
theorem eq_gen {a b : D} {o : O} (hg : gEq [a, b] = some o) : (∃ i j, a = .int i ∧ b = .int j ∧ o = bO (decide (i = j))) ∨ (∃ i j, a = .str i ∧ b = .str j ∧ o = bO (decide (i = j))) ∨ (∃ i j, a = .bl i ∧ b = .bl j ∧ o = bO (decide (i = j))) ∨ (shp a = true ∧ shp b = true ∧ o = bO (D.eqv a b)) := by
  unfold gEq at hg
  split at hg
  · rename_i h; cases h; cases hg; exact .inl ⟨_, _, rfl, rfl, rfl⟩
  · rename_i h; cases h; cases hg; exact .inr (.inl ⟨_, _, rfl, rfl, rfl⟩)
  · rename_i h; cases h; cases hg; exact .inr (.inr (.inl ⟨_, _, rfl, rfl, rfl⟩))
  · rename_i h
    cases h
    split at hg
    · rename_i hs
      cases hg
      rw [Bool.and_eq_true] at hs
      exact .inr (.inr (.inr ⟨hs.1, hs.2, rfl⟩))
    · cases hg
  · cases hg
theorem ne_gen {a b : D} {o : O} (hg : gNe [a, b] = some o) : (∃ i j, a = .int i ∧ b = .int j ∧ o = bO (!decide (i = j))) ∨ (∃ i j, a = .str i ∧ b = .str j ∧ o = bO (!decide (i = j))) ∨ (∃ i j, a = .bl i ∧ b = .bl j ∧ o = bO (!decide (i = j))) ∨ (shp a = true ∧ shp b = true ∧ o = bO (!D.eqv a b)) := by
  unfold gNe at hg
  split at hg
  · rename_i h; cases h; cases hg; exact .inl ⟨_, _, rfl, rfl, rfl⟩
  · rename_i h; cases h; cases hg; exact .inr (.inl ⟨_, _, rfl, rfl, rfl⟩)
  · rename_i h; cases h; cases hg; exact .inr (.inr (.inl ⟨_, _, rfl, rfl, rfl⟩))
  · rename_i h
    cases h
    split at hg
    · rename_i hs
      cases hg
      rw [Bool.and_eq_true] at hs
      exact .inr (.inr (.inr ⟨hs.1, hs.2, rfl⟩))
    · cases hg
  · cases hg
theorem dec_vi {i j : Int} : decide (V.int i = V.int j) = decide (i = j) := by simp
theorem dec_vs {i j : Str} : decide (V.str i = V.str j) = decide (i = j) := by simp
theorem dec_vb {i j : Bool} : decide (V.bl i = V.bl j) = decide (i = j) := by simp
theorem n_eq {K : PySem.W.Frag} : Snd2 K (rEqO K) gEq := fun B H x y a b o hx ha hb hg Q q => by
  rcases eq_gen hg with ⟨i, j, rfl, rfl, rfl⟩ | ⟨i, j, rfl, rfl, rfl⟩ | ⟨i, j, rfl, rfl, rfl⟩ | ⟨h1, h2, rfl⟩
  · cases ha; cases hb; exact .inl ⟨rfl, by rw [dec_vi]; exact q.fr hx (.bl _)⟩
  · cases ha; cases hb; exact .inl ⟨rfl, by rw [dec_vs]; exact q.fr hx (.bl _)⟩
  · cases ha; cases hb; exact .inl ⟨rfl, by rw [dec_vb]; exact q.fr hx (.bl _)⟩
  · exact .inr ⟨_, _, ha.dp hx (shp_nx h1), hb.dp hx (shp_nx h2), h1, h2, q.fr hx (.bl _)⟩
theorem n_ne {K : PySem.W.Frag} : Snd2 K (rNeO K) gNe := fun B H x y a b o hx ha hb hg Q q => by
  rcases ne_gen hg with ⟨i, j, rfl, rfl, rfl⟩ | ⟨i, j, rfl, rfl, rfl⟩ | ⟨i, j, rfl, rfl, rfl⟩ | ⟨h1, h2, rfl⟩
  · cases ha; cases hb; exact .inl ⟨rfl, by rw [dec_vi]; exact q.fr hx (.bl _)⟩
  · cases ha; cases hb; exact .inl ⟨rfl, by rw [dec_vs]; exact q.fr hx (.bl _)⟩
  · cases ha; cases hb; exact .inl ⟨rfl, by rw [dec_vb]; exact q.fr hx (.bl _)⟩
  · exact .inr ⟨_, _, ha.dp hx (shp_nx h1), hb.dp hx (shp_nx h2), h1, h2, q.fr hx (.bl _)⟩

/-! ### order -/
def rOrd (K : PySem.W.Frag) (f : PyData → PyData → Bool) : R2 := fun x y H Q => ∃ d e, Dp K H x d ∧ Dp K H y e ∧ W.alike d e = true ∧ d ≠ .none ∧ min d.depth e.depth ≤ 64 ∧ Q (.bl (f d e)) H
theorem o_ltD (hu : X.A.units + 64 < cLine) : OpR X (compareOp .Lt) (rOrd X.K W.dataLt) := by
  intro pins s σ H x y v u Q I rx ry h
  obtain ⟨d, e, hd, he, al, dn, dp, q⟩ := h
  obtain ⟨as, r1⟩ := Dp.reads I d x v hd rx
  obtain ⟨bs, r2⟩ := Dp.reads I e y u he ry
  exact W.lt_data r1 r2 al dn (by omega) ⟨.bl _, H, I, rfl, q⟩
theorem o_gtD (hu : X.A.units + 64 < cLine) : OpR X (compareOp .Gt) (rOrd X.K fun d e => W.dataLt e d) := by
  intro pins s σ H x y v u Q I rx ry h
  obtain ⟨d, e, hd, he, al, dn, dp, q⟩ := h
  obtain ⟨as, r1⟩ := Dp.reads I d x v hd rx
  obtain ⟨bs, r2⟩ := Dp.reads I e y u he ry
  exact W.gt_data r1 r2 al dn (by omega) ⟨.bl _, H, I, rfl, q⟩
theorem o_leD (hu : X.A.units + 64 < cLine) : OpR X (compareOp .LtE) (rOrd X.K fun d e => !W.dataLt e d) := by
  intro pins s σ H x y v u Q I rx ry h
  obtain ⟨d, e, hd, he, al, dn, dp, q⟩ := h
  obtain ⟨as, r1⟩ := Dp.reads I d x v hd rx
  obtain ⟨bs, r2⟩ := Dp.reads I e y u he ry
  exact W.le_data r1 r2 al dn (by omega) ⟨.bl _, H, I, rfl, q⟩
theorem o_geD (hu : X.A.units + 64 < cLine) : OpR X (compareOp .GtE) (rOrd X.K fun d e => !W.dataLt d e) := by
  intro pins s σ H x y v u Q I rx ry h
  obtain ⟨d, e, hd, he, al, dn, dp, q⟩ := h
  obtain ⟨as, r1⟩ := Dp.reads I d x v hd rx
  obtain ⟨bs, r2⟩ := Dp.reads I e y u he ry
  exact W.ge_data r1 r2 al dn (by omega) ⟨.bl _, H, I, rfl, q⟩
def rLtO (K : PySem.W.Frag) : R2 := fun x y H Q => (rI0 fun i j => .bl (decide (i < j))) x y H Q ∨ rOrd K W.dataLt x y H Q
def rGtO (K : PySem.W.Frag) : R2 := fun x y H Q => (rI0 fun i j => .bl (decide (j < i))) x y H Q ∨ rOrd K (fun d e => W.dataLt e d) x y H Q
def rLeO (K : PySem.W.Frag) : R2 := fun x y H Q => (rI0 fun i j => .bl (decide (i ≤ j))) x y H Q ∨ rOrd K (fun d e => !W.dataLt e d) x y H Q
def rGeO (K : PySem.W.Frag) : R2 := fun x y H Q => (rI0 fun i j => .bl (decide (j ≤ i))) x y H Q ∨ rOrd K (fun d e => !W.dataLt d e) x y H Q
theorem o_lt (hu : X.A.units + 64 < cLine) : OpR X (compareOp .Lt) (rLtO X.K) := op_lt.or (o_ltD hu)
theorem o_gt (hu : X.A.units + 64 < cLine) : OpR X (compareOp .Gt) (rGtO X.K) := op_gt.or (o_gtD hu)
theorem o_le (hu : X.A.units + 64 < cLine) : OpR X (compareOp .LtE) (rLeO X.K) := op_le.or (o_leD hu)
theorem o_ge (hu : X.A.units + 64 < cLine) : OpR X (compareOp .GtE) (rGeO X.K) := op_ge.or (o_geD hu)
theorem ord_of {a b : D} (h : ordOk a b = true) : W.alike a.py b.py = true ∧ a.py ≠ .none ∧ min a.py.depth b.py.depth ≤ 64 ∧ a.nx = true ∧ b.nx = true := by
  unfold ordOk at h
  rw [Bool.and_eq_true, Bool.and_eq_true, Bool.and_eq_true, Bool.and_eq_true] at h
  obtain ⟨⟨⟨⟨n1, n2⟩, h1⟩, h2⟩, h3⟩ := h
  refine ⟨h1, fun z => ?_, of_decide_eq_true h3, n1, n2⟩
  clear h3 h1 n1 n2
  cases a <;> (try rw [D.py] at z) <;> (first | cases z | skip)
  exact absurd h2 (by decide)
theorem n_lt {K : PySem.W.Frag} : Snd2 K (rLtO K) gLt := fun B H x y a b o hx ha hb hg Q q => by
  unfold gLt at hg
  split at hg
  · rename_i h; cases h; cases hg; cases ha; cases hb
    exact .inl ⟨_, _, rfl, rfl, q.fr hx (.bl _)⟩
  · rename_i h; cases h
    split at hg
    · rename_i hs
      cases hg
      obtain ⟨h1, h2, h3, h4, h5⟩ := ord_of hs
      exact .inr ⟨_, _, ha.dp hx h4, hb.dp hx h5, h1, h2, h3, q.fr hx (.bl _)⟩
    · cases hg
  · cases hg
theorem n_gt {K : PySem.W.Frag} : Snd2 K (rGtO K) gGt := fun B H x y a b o hx ha hb hg Q q => by
  unfold gGt at hg
  split at hg
  · rename_i h; cases h; cases hg; cases ha; cases hb
    exact .inl ⟨_, _, rfl, rfl, q.fr hx (.bl _)⟩
  · rename_i h; cases h
    split at hg
    · rename_i hs
      cases hg
      obtain ⟨h1, h2, h3, h4, h5⟩ := ord_of hs
      exact .inr ⟨_, _, ha.dp hx h4, hb.dp hx h5, h1, h2, h3, q.fr hx (.bl _)⟩
    · cases hg
  · cases hg
theorem n_le {K : PySem.W.Frag} : Snd2 K (rLeO K) gLe := fun B H x y a b o hx ha hb hg Q q => by
  unfold gLe at hg
  split at hg
  · rename_i h; cases h; cases hg; cases ha; cases hb
    exact .inl ⟨_, _, rfl, rfl, q.fr hx (.bl _)⟩
  · rename_i h; cases h
    split at hg
    · rename_i hs
      cases hg
      obtain ⟨h1, h2, h3, h4, h5⟩ := ord_of hs
      exact .inr ⟨_, _, ha.dp hx h4, hb.dp hx h5, h1, h2, h3, q.fr hx (.bl _)⟩
    · cases hg
  · cases hg
theorem n_ge {K : PySem.W.Frag} : Snd2 K (rGeO K) gGe := fun B H x y a b o hx ha hb hg Q q => by
  unfold gGe at hg
  split at hg
  · rename_i h; cases h; cases hg; cases ha; cases hb
    exact .inl ⟨_, _, rfl, rfl, q.fr hx (.bl _)⟩
  · rename_i h; cases h
    split at hg
    · rename_i hs
      cases hg
      obtain ⟨h1, h2, h3, h4, h5⟩ := ord_of hs
      exact .inr ⟨_, _, ha.dp hx h4, hb.dp hx h5, h1, h2, h3, q.fr hx (.bl _)⟩
    · cases hg
  · cases hg

/-! ### is, is not (None, True, False) -/
def rIsO : R2 := fun x y H Q => (fun x y H Q => y = .non ∧ Q (.bl (decide (x = .non))) H) x y H Q ∨ rIsB x y H Q
def rNotO : R2 := fun x y H Q => (fun x y H Q => y = .non ∧ Q (.bl (!decide (x = .non))) H) x y H Q ∨ rNotB x y H Q
theorem o_is : OpR X (compareOp .Is) rIsO := op_isN.or op_isBl
theorem o_isnot : OpR X (compareOp .IsNot) rNotO := op_notN.or op_notBl
theorem rd_non {K : PySem.W.Frag} {B H : Hp} {v : V} {d : D} (h : Rd K B H v d) (hd : d ≠ .opq) : (d = .non ∧ v = .non) ∨ (d ≠ .non ∧ v ≠ .non) := by
  cases d with
  | non => cases h; exact .inl ⟨rfl, rfl⟩
  | lst ds => obtain ⟨a, xs, rfl, _⟩ := h; exact .inr ⟨(by intro z; cases z), (by intro z; cases z)⟩
  | bl b => cases h; exact .inr ⟨(by intro z; cases z), (by intro z; cases z)⟩
  | int b => cases h; exact .inr ⟨(by intro z; cases z), (by intro z; cases z)⟩
  | str b => cases h; exact .inr ⟨(by intro z; cases z), (by intro z; cases z)⟩
  | tup b => cases h; exact .inr ⟨(by intro z; cases z), (by intro z; cases z)⟩
  | scr b => cases h; exact .inr ⟨(by intro z; cases z), (by intro z; cases z)⟩
  | opq => exact absurd rfl hd
  | dct ks ds => obtain ⟨a, kv, rfl, _⟩ := h; exact .inr ⟨(by intro z; cases z), (by intro z; cases z)⟩
  | ins c ns ds => obtain ⟨a, C, dx, fs, rfl, _⟩ := h; exact .inr ⟨(by intro z; cases z), (by intro z; cases z)⟩
theorem n_is {K : PySem.W.Frag} : Snd2 K rIsO gIsN := fun B H x y a b o hx ha hb hg Q q => by
  unfold gIsN at hg
  split at hg
  · rename_i h; cases h; cases hg; cases ha; cases hb
    exact .inl ⟨rfl, q.fr hx (.bl _)⟩
  · cases hg
  · rename_i h1 h2 h; cases h; cases hg; cases hb
    rcases rd_non ha (fun z => by subst z; exact h2 rfl) with ⟨e, _⟩ | ⟨_, e⟩
    · exact absurd e (fun z => by subst z; exact h1 rfl)
    · exact .inl ⟨rfl, by rw [decide_eq_false e]; exact q.fr hx (.bl _)⟩
  · rename_i h; cases h; cases hg; cases ha; cases hb
    exact .inr ⟨_, _, rfl, rfl, q.fr hx (.bl _)⟩
  · cases hg
theorem n_isnot {K : PySem.W.Frag} : Snd2 K rNotO gNotN := fun B H x y a b o hx ha hb hg Q q => by
  unfold gNotN at hg
  split at hg
  · rename_i h; cases h; cases hg; cases ha; cases hb
    exact .inl ⟨rfl, q.fr hx (.bl _)⟩
  · cases hg
  · rename_i h1 h2 h; cases h; cases hg; cases hb
    rcases rd_non ha (fun z => by subst z; exact h2 rfl) with ⟨e, _⟩ | ⟨_, e⟩
    · exact absurd e (fun z => by subst z; exact h1 rfl)
    · exact .inl ⟨rfl, by rw [decide_eq_false e]; exact q.fr hx (.bl _)⟩
  · rename_i h; cases h; cases hg; cases ha; cases hb
    exact .inr ⟨_, _, rfl, rfl, q.fr hx (.bl _)⟩
  · cases hg

/-! ### in, not in -/
def rInT (K : PySem.W.Frag) (neg : Bool) : R2 := fun x y H Q => ∃ d ds, Dp K H x d ∧ Dp K H y (.tuple ds) ∧ SeqAt.shaped d = true ∧ SeqAt.shaped (.tuple ds) = true ∧ Q (.bl (if neg then !(ds.any fun z => PyData.eqv z d) else ds.any fun z => PyData.eqv z d)) H
theorem o_inT (hu : X.A.units + 65 < cLine) : OpR X (compareOp .In) (rInT X.K false) := by
  intro pins s σ H x y v u Q I rx ry h
  obtain ⟨d, ds, hd, he, sd, se, q⟩ := h
  obtain ⟨as, r1⟩ := Dp.reads I d x v hd rx
  obtain ⟨bs, r2⟩ := Dp.reads I (.tuple ds) y u he ry
  exact SeqAt.in_tuple_reads r2 r1 (SeqAt.canLay_of_shaped se) (SeqAt.canLay_of_shaped sd) (PyProof.Rows.room_in_shaped sd hu) ⟨.bl _, H, I, rfl, q⟩
theorem o_notInT (hu : X.A.units + 65 < cLine) : OpR X (compareOp .NotIn) (rInT X.K true) := by
  intro pins s σ H x y v u Q I rx ry h
  obtain ⟨d, ds, hd, he, sd, se, q⟩ := h
  obtain ⟨as, r1⟩ := Dp.reads I d x v hd rx
  obtain ⟨bs, r2⟩ := Dp.reads I (.tuple ds) y u he ry
  exact SeqAt.notIn_tuple_reads r2 r1 (SeqAt.canLay_of_shaped se) (SeqAt.canLay_of_shaped sd) (PyProof.Rows.room_in_shaped sd hu) ⟨.bl _, H, I, rfl, q⟩
theorem keyD_v {K : PySem.W.Frag} {B H : Hp} {v : V} {d : D} {k : L2.Key} (h : keyD d = some k) (r : Rd K B H v d) : v = kV k := by
  cases d with
  | int i => cases h; cases r; rfl
  | str s => cases h; cases r; rfl
  | _ => cases h
theorem getK_val {K : PySem.W.Frag} {B : Hp} {k : L2.Key} : ∀ {kv : List (L2.Key × V)} {ks : List L2.Key} {ds : List D}, kv.map (·.1) = ks → RepL K B (kv.map (·.2)) ds → (getK ks ds k).isSome = (valV kv k).isSome
  | [], [], _, _, _ => by cases ‹List D› <;> rfl
  | p :: kv, [], _, h, _ => by cases h
  | [], _ :: _, _, h, _ => by cases h
  | p :: kv, j :: ks, d :: ds, h, hr => by
    rw [List.map_cons] at h hr
    injection h with h1 h2
    cases hr with
    | cons _ hr =>
      unfold getK
      by_cases e : j = k
      · rw [if_pos e, valV_pos (h1.trans e)]; rfl
      · rw [if_neg e, valV_neg (fun z => e (h1.symm.trans z))]
        exact getK_val h2 hr
  | p :: kv, j :: ks, [], _, hr => by cases hr
theorem getK_rep {K : PySem.W.Frag} {B : Hp} {k : L2.Key} {d : D} : ∀ {kv : List (L2.Key × V)} {ks : List L2.Key} {ds : List D}, kv.map (·.1) = ks → RepL K B (kv.map (·.2)) ds → getK ks ds k = some d → ∃ v, valV kv k = some v ∧ Rep K B v d
  | [], [], ds, _, _, e => by cases ds <;> cases e
  | p :: kv, [], _, h, _, _ => by cases h
  | [], _ :: _, _, h, _, _ => by cases h
  | p :: kv, j :: ks, d' :: ds, h, hr, e => by
    rw [List.map_cons] at h hr
    injection h with h1 h2
    cases hr with
    | cons hd hr =>
      unfold getK at e
      by_cases ej : j = k
      · rw [if_pos ej] at e
        cases e
        exact ⟨_, valV_pos (h1.trans ej), hd⟩
      · rw [if_neg ej] at e
        obtain ⟨v, e1, e2⟩ := getK_rep h2 hr e
        exact ⟨v, by rw [valV_neg (fun z => ej (h1.symm.trans z))]; exact e1, e2⟩
  | p :: kv, j :: ks, [], _, hr, _ => by cases hr
def rDIn (neg : Bool) : R2 := fun x y H Q => ∃ p kv k, y = .ref p ∧ x = kV k ∧ H p = some (.dK kv) ∧ Q (.bl (if neg then !(valV kv k).isSome else (valV kv k).isSome)) H
theorem o_dIn (hu : X.A.units + 1 < cLine) : OpR X (compareOp .In) (rDIn false) := by
  intro pins s σ H x y v u Q I rx ry h
  obtain ⟨p, kv, k, rfl, rfl, hp, q⟩ := h
  cases ry
  exact d_in hu I (DGet.k hp) rx fun s' I' => ⟨.bl _, H, I', rfl, q⟩
theorem o_dNotIn (hu : X.A.units + 1 < cLine) : OpR X (compareOp .NotIn) (rDIn true) := by
  intro pins s σ H x y v u Q I rx ry h
  obtain ⟨p, kv, k, rfl, rfl, hp, q⟩ := h
  cases ry
  exact d_notIn hu I (DGet.k hp) rx fun s' I' => ⟨.bl _, H, I', rfl, q⟩
def rInO (K : PySem.W.Frag) : R2 := fun x y H Q => (fun x y H Q => ∃ (c : Nat) (z : Str), x = .str ⟨#[c]⟩ ∧ y = .str z ∧ Q (.bl (decide (c ∈ z.cps.toList))) H) x y H Q ∨ (fun x y H Q => ∃ i j, x = .str i ∧ y = .str j ∧ Q (.bl (!(Builtin.Str.occurrences j i 0 j.length 1).isEmpty)) H) x y H Q ∨ rInD K x y H Q ∨ rInT K false x y H Q ∨ rDIn false x y H Q
def rNotInO (K : PySem.W.Frag) : R2 := fun x y H Q => (fun x y H Q => ∃ (c : Nat) (z : Str), x = .str ⟨#[c]⟩ ∧ y = .str z ∧ Q (.bl (!decide (c ∈ z.cps.toList))) H) x y H Q ∨ (fun x y H Q => ∃ i j, x = .str i ∧ y = .str j ∧ Q (.bl (!(!(Builtin.Str.occurrences j i 0 j.length 1).isEmpty))) H) x y H Q ∨ rNotInD K x y H Q ∨ rInT K true x y H Q ∨ rDIn true x y H Q
theorem o_in (hu : X.A.units + 65 < cLine) : OpR X (compareOp .In) (rInO X.K) := op_in_sign.or (op_in_str.or ((op_inD hu).or ((o_inT hu).or (o_dIn (by omega)))))
theorem o_notin (hu : X.A.units + 65 < cLine) : OpR X (compareOp .NotIn) (rNotInO X.K) := op_notIn_sign.or (op_notin_str.or ((op_notInD hu).or ((o_notInT hu).or (o_dNotIn (by omega)))))
theorem any_pys (x : D) (ds : List D) : ((D.pys ds).any fun z => PyData.eqv z x.py) = inL x ds := by
  rw [D.pys_map, List.any_map]
  rfl
theorem str_one {s : Str} {c : Nat} (h : s.cps.toList = [c]) : s = ⟨#[c]⟩ := by
  cases s with
  | mk cps =>
    have : cps = #[c] := by
      apply Array.ext'
      simpa using h
    rw [this]
theorem n_in {K : PySem.W.Frag} : Snd2 K (rInO K) gIn := fun B H x y a b o hx ha hb hg Q q => by
  unfold gIn at hg
  split at hg
  · rename_i s z h; cases h; cases hg; cases ha; cases hb
    unfold inStr at q
    split at q
    · rename_i c hc
      rw [str_one hc]
      exact .inl ⟨_, _, rfl, rfl, q.fr hx (.bl _)⟩
    · exact .inr (.inl ⟨_, _, rfl, rfl, q.fr hx (.bl _)⟩)
  · rename_i h; cases h
    split at hg
    · rename_i hs
      cases hg
      rw [Bool.and_eq_true] at hs
      refine .inr (.inr (.inl ⟨_, _, ha.dp hx (shp_nx hs.1), by have := hb.dp hx (shp_nx hs.2); rw [D.py] at this; exact this, hs.1, by have := hs.2; unfold shp at this; rw [D.py] at this; exact this, ?_⟩))
      rw [any_pys]
      exact q.fr hx (.bl _)
    · cases hg
  · rename_i h; cases h
    split at hg
    · rename_i hs
      cases hg
      rw [Bool.and_eq_true] at hs
      refine .inr (.inr (.inr (.inl ⟨_, _, ha.dp hx (shp_nx hs.1), by have := hb.dp hx (shp_nx hs.2); rw [D.py] at this; exact this, hs.1, by have := hs.2; unfold shp at this; rw [D.py] at this; exact this, ?_⟩)))
      rw [any_pys]
      exact q.fr hx (.bl _)
    · cases hg
  · rename_i h; cases h
    obtain ⟨k, hk, rfl⟩ := Option.map_eq_some_iff.mp hg
    obtain ⟨p, kv, rfl, h1, h2, h3⟩ := hb
    exact .inr (.inr (.inr (.inr ⟨p, kv, k, rfl, keyD_v hk ha, h1, by rw [← getK_val h2 h3]; exact q.fr hx (.bl _)⟩)))
  · cases hg
theorem n_notin {K : PySem.W.Frag} : Snd2 K (rNotInO K) gNotIn := fun B H x y a b o hx ha hb hg Q q => by
  unfold gNotIn at hg
  split at hg
  · rename_i s z h; cases h; cases hg; cases ha; cases hb
    unfold inStr at q
    split at q
    · rename_i c hc
      rw [str_one hc]
      exact .inl ⟨_, _, rfl, rfl, q.fr hx (.bl _)⟩
    · exact .inr (.inl ⟨_, _, rfl, rfl, q.fr hx (.bl _)⟩)
  · rename_i h; cases h
    split at hg
    · rename_i hs
      cases hg
      rw [Bool.and_eq_true] at hs
      refine .inr (.inr (.inl ⟨_, _, ha.dp hx (shp_nx hs.1), by have := hb.dp hx (shp_nx hs.2); rw [D.py] at this; exact this, hs.1, by have := hs.2; unfold shp at this; rw [D.py] at this; exact this, ?_⟩))
      rw [any_pys]
      exact q.fr hx (.bl _)
    · cases hg
  · rename_i h; cases h
    split at hg
    · rename_i hs
      cases hg
      rw [Bool.and_eq_true] at hs
      refine .inr (.inr (.inr (.inl ⟨_, _, ha.dp hx (shp_nx hs.1), by have := hb.dp hx (shp_nx hs.2); rw [D.py] at this; exact this, hs.1, by have := hs.2; unfold shp at this; rw [D.py] at this; exact this, ?_⟩)))
      rw [any_pys]
      exact q.fr hx (.bl _)
    · cases hg
  · rename_i h; cases h
    obtain ⟨k, hk, rfl⟩ := Option.map_eq_some_iff.mp hg
    obtain ⟨p, kv, rfl, h1, h2, h3⟩ := hb
    exact .inr (.inr (.inr (.inr ⟨p, kv, k, rfl, keyD_v hk ha, h1, by rw [← getK_val h2 h3]; exact q.fr hx (.bl _)⟩)))
  · cases hg

/-! ### subscripts -/
theorem at_rep {K : PySem.W.Frag} {B : Hp} {xs : List V} {ds : List D} {i : Int} {d : D} (h : RepL K B xs ds) (e : atI ds i = some d) : ∃ v, atI xs i = some v ∧ Rep K B v d := by
  unfold atI at e ⊢
  rw [h.length]
  cases q : ixN ds.length i with
  | none => rw [q] at e; cases e
  | some j =>
    rw [q] at e
    exact h.get e
theorem at_int {ns : List Int} {i : Int} {d : Int} (e : atI ns i = some d) : atI (ns.map V.int) i = some (.int d) := by
  unfold atI at e ⊢
  rw [List.length_map]
  cases q : ixN ns.length i with
  | none => rw [q] at e; cases e
  | some j =>
    rw [q] at e
    have e' : ns[j]? = some d := e
    show (ns.map V.int)[j]? = some (V.int d)
    rw [List.getElem?_map, e']
    rfl
/-- d[k], there -/
def rIxDk : R2 := fun x y H Q => ∃ p kv k v, x = .ref p ∧ y = kV k ∧ H p = some (.dK kv) ∧ valV kv k = some v ∧ Q v H
theorem ix_dk (hu : X.A.units + 1 < cLine) : IxR X rIxDk := by
  intro value slice pins s σ H x y v u Q I rx ry h hs
  obtain ⟨p, kv, k, z, rfl, rfl, hp, hv, q⟩ := h
  cases rx
  have g : DGet H p (kV k) (some z) := .inl ⟨kv, k, .inl hp, rfl, hv.symm⟩
  exact PyProof.Rows.tail_any (dict_typeIs I g) PySem.F.slot_dict_getitem.lookup (d_getItem hu I g ry fun w' s' I' rw' => ⟨z, H, I', rw', q⟩) hs
def rIxA (K : PySem.W.Frag) : R2 := fun x y H Q => rIx K x y H Q ∨ rIxDk x y H Q
theorem ix_any (hu : X.A.units + 64 < cLine) : IxR X (rIxA X.K) := ix_seq.or (ix_dk (by omega))
theorem n_ix {K : PySem.W.Frag} : Snd2 K (rIxA K) gIx := fun B H x y a b o hx ha hb hg Q q => by
  unfold gIx at hg
  split at hg
  · rename_i h; cases h; cases hb
    obtain ⟨d, e, rfl⟩ := Option.map_eq_some_iff.mp hg
    obtain ⟨p, xs, rfl, h1, h2⟩ := ha
    obtain ⟨v, e1, e2⟩ := at_rep h2 e
    exact .inl (.inl ⟨_, _, _, v, rfl, rfl, Evl.sq_of h1, e1, q.fr hx e2⟩)
  · rename_i h; cases h; cases hb
    obtain ⟨d, e, rfl⟩ := Option.map_eq_some_iff.mp hg
    cases ha with
    | tup h1 h2 =>
      obtain ⟨v, e1, e2⟩ := at_rep h2 e
      exact .inl (.inr (.inl ⟨_, _, _, v, rfl, rfl, Evl.ex_t hx h1.sq, e1, q.fr hx e2⟩))
  · rename_i h; cases h; cases hb
    obtain ⟨d, e, rfl⟩ := Option.map_eq_some_iff.mp hg
    cases ha with
    | scr h1 => exact .inl (.inl ⟨_, _, _, _, rfl, rfl, Evl.ex_l hx h1, at_int e, q.fr hx (.int _)⟩)
  · rename_i h; cases h; cases hb
    split at hg
    · rename_i hl
      obtain ⟨d, e, rfl⟩ := Option.map_eq_some_iff.mp hg
      cases ha
      exact .inl (.inr (.inr ⟨_, _, _, rfl, rfl, hl, e, q.fr hx (.str _)⟩))
    · cases hg
  · rename_i h; cases h
    obtain ⟨k, hk, e0⟩ := Option.bind_eq_some_iff.mp hg
    obtain ⟨d, e, rfl⟩ := Option.map_eq_some_iff.mp e0
    obtain ⟨p, kv, rfl, h1, h2, h3⟩ := ha
    obtain ⟨v, e1, e2⟩ := getK_rep h2 h3 e
    exact .inr ⟨p, kv, k, v, rfl, keyD_v hk hb, h1, e1, q.fr hx e2⟩
  · cases hg

/-! ### built-ins -/
theorem RdL.one {K : PySem.W.Frag} {B H : Hp} {vs : List V} {d : D} (h : RdL K B H vs [d]) : ∃ v, vs = [v] ∧ Rd K B H v d := by
  cases h with
  | cons h hs => cases hs; exact ⟨_, rfl, h⟩
theorem n_len {K : PySem.W.Frag} : SndN K (fun xs H Q => ∃ x n, xs = [x] ∧ LenV K x H n ∧ Q (.int n) H) gLen := fun B H vs ds o hx hr hg Q q => by
  unfold gLen at hg
  split at hg
  · cases hg
    obtain ⟨v, rfl, h⟩ := hr.one
    obtain ⟨p, xs, rfl, h1, h2⟩ := h
    exact ⟨_, _, rfl, .inl ⟨_, Evl.sq_of h1, h2.length.symm⟩, q.fr hx (.int _)⟩
  · cases hg
    obtain ⟨v, rfl, h⟩ := hr.one
    cases h with
    | tup h1 h2 => exact ⟨_, _, rfl, .inr ⟨_, Evl.ex_t hx h1.sq, h2.length.symm⟩, q.fr hx (.int _)⟩
  · cases hg
    obtain ⟨v, rfl, h⟩ := hr.one
    cases h with
    | scr h1 => exact ⟨_, _, rfl, .inl ⟨_, Evl.ex_l hx h1, (List.length_map ..).symm⟩, q.fr hx (.int _)⟩
  · split at hg
    · rename_i hl
      cases hg
      obtain ⟨v, rfl, h⟩ := hr.one
      cases h
      exact ⟨_, _, rfl, ⟨hl, rfl⟩, q.fr hx (.int _)⟩
    · cases hg
  · cases hg
theorem call_int12 {X : Cx} : CallR X (.type "int") (fun xs H Q => ((∃ i, xs = [.int i] ∧ Q (.int i) H) ∨ ∃ k, xs = [.bl k] ∧ Q (.int (if k then 1 else 0)) H) ∨ ∃ a n, xs = [.str a] ∧ PySem.intText? a = some n ∧ a.length ≤ 640 ∧ Q (.int n) H) := call_int1.or call_int_str
theorem n_int {K : PySem.W.Frag} : SndN K (fun xs H Q => ((∃ i, xs = [.int i] ∧ Q (.int i) H) ∨ ∃ k, xs = [.bl k] ∧ Q (.int (if k then 1 else 0)) H) ∨ ∃ a n, xs = [.str a] ∧ PySem.intText? a = some n ∧ a.length ≤ 640 ∧ Q (.int n) H) gInt := fun B H vs ds o hx hr hg Q q => by
  unfold gInt at hg
  split at hg
  · cases hg
    obtain ⟨v, rfl, h⟩ := hr.one
    cases h
    exact .inl (.inl ⟨_, rfl, q.fr hx (.int _)⟩)
  · cases hg
    obtain ⟨v, rfl, h⟩ := hr.one
    cases h
    exact .inl (.inr ⟨_, rfl, q.fr hx (.int _)⟩)
  · split at hg
    · rename_i hl
      obtain ⟨n, hn, rfl⟩ := Option.map_eq_some_iff.mp hg
      obtain ⟨v, rfl, h⟩ := hr.one
      cases h
      exact .inr ⟨_, n, rfl, hn, hl, q.fr hx (.int _)⟩
    · cases hg
  · cases hg
theorem n_abs {K : PySem.W.Frag} : SndN K (fun xs H Q => ∃ i, xs = [.int i] ∧ Q (.int (if i < 0 then -i else i)) H) gAbs := fun B H vs ds o hx hr hg Q q => by
  unfold gAbs at hg
  split at hg
  · cases hg
    obtain ⟨v, rfl, h⟩ := hr.one
    cases h
    exact ⟨_, rfl, q.fr hx (.int _)⟩
  · cases hg
theorem n_ord {K : PySem.W.Frag} : SndN K (fun xs H Q => ∃ x, xs = [.str x] ∧ x.length = 1 ∧ Q (.int (x.cps.getD 0 0 : Nat)) H) gOrd := fun B H vs ds o hx hr hg Q q => by
  unfold gOrd at hg
  split at hg
  · split at hg
    · rename_i hl
      cases hg
      obtain ⟨v, rfl, h⟩ := hr.one
      cases h
      exact ⟨_, rfl, hl, q.fr hx (.int _)⟩
    · cases hg
  · cases hg
theorem n_list {K : PySem.W.Frag} : SndN K (fun xs H Q => ∃ p ys, xs = [.ref p] ∧ (SqL K H p ys ∨ SqT K H p ys) ∧ ∀ l, H l = none → Q (.ref l) (upd H l (.lst ys))) gList := fun B H vs ds o hx hr hg Q q => by
  unfold gList at hg
  split at hg
  · cases hg
    obtain ⟨v, rfl, h⟩ := hr.one
    obtain ⟨p, xs, rfl, h1, h2⟩ := h
    exact ⟨_, _, rfl, .inl (Evl.sq_of h1), fun l hl => q.newL hx h2 hl⟩
  · cases hg
    obtain ⟨v, rfl, h⟩ := hr.one
    cases h with
    | tup h1 h2 => exact ⟨_, _, rfl, .inr (Evl.ex_t hx h1.sq), fun l hl => q.newL hx h2 hl⟩
  · cases hg
    obtain ⟨v, rfl, h⟩ := hr.one
    cases h with
    | scr h1 => exact ⟨_, _, rfl, .inl (Evl.ex_l hx h1), fun l hl => q.newL hx (repL_ints _) hl⟩
  · cases hg
theorem n_tuple {K : PySem.W.Frag} : SndN K (fun xs H Q => ∃ p ys, xs = [.ref p] ∧ ((SqL K H p ys ∧ ∀ l, H l = none → Q (.ref l) (upd H l (.tup ys))) ∨ (SqT K H p ys ∧ Q (.ref p) H))) gTuple := fun B H vs ds o hx hr hg Q q => by
  unfold gTuple at hg
  split at hg
  · cases hg
    obtain ⟨v, rfl, h⟩ := hr.one
    obtain ⟨p, xs, rfl, h1, h2⟩ := h
    exact ⟨_, _, rfl, .inl ⟨Evl.sq_of h1, fun l hl => q.newT hx h2 hl⟩⟩
  · cases hg
    obtain ⟨v, rfl, h⟩ := hr.one
    cases h with
    | tup h1 h2 => exact ⟨_, _, rfl, .inr ⟨Evl.ex_t hx h1.sq, q.fr hx (.tup h1 h2)⟩⟩
  · cases hg
theorem boolsD_map : ∀ {ds : List D} {bs : List Bool}, boolsD ds = some bs → ds = bs.map D.bl
  | [], bs, h => by cases h; rfl
  | d :: ds, bs, h => by
    cases d with
    | bl b =>
      obtain ⟨cs, e, rfl⟩ := Option.map_eq_some_iff.mp (show (boolsD ds).map (b :: ·) = some bs from h)
      rw [boolsD_map e]; rfl
    | _ => cases h
theorem intsD_map : ∀ {ds : List D} {bs : List Int}, intsD ds = some bs → ds = bs.map D.int
  | [], bs, h => by cases h; rfl
  | d :: ds, bs, h => by
    cases d with
    | int b =>
      obtain ⟨cs, e, rfl⟩ := Option.map_eq_some_iff.mp (show (intsD ds).map (b :: ·) = some bs from h)
      rw [intsD_map e]; rfl
    | _ => cases h
theorem strsD_map : ∀ {ds : List D} {bs : List Str}, strsD ds = some bs → ds = bs.map D.str
  | [], bs, h => by cases h; rfl
  | d :: ds, bs, h => by
    cases d with
    | str b =>
      obtain ⟨cs, e, rfl⟩ := Option.map_eq_some_iff.mp (show (strsD ds).map (b :: ·) = some bs from h)
      rw [strsD_map e]; rfl
    | _ => cases h
theorem boolsD_bl : ∀ bs : List Bool, boolsD (bs.map D.bl) = some bs
  | [] => rfl
  | b :: bs => by show (boolsD (bs.map D.bl)).map (b :: ·) = _; rw [boolsD_bl bs]; rfl
theorem intsD_int : ∀ bs : List Int, intsD (bs.map D.int) = some bs
  | [] => rfl
  | b :: bs => by show (intsD (bs.map D.int)).map (b :: ·) = _; rw [intsD_int bs]; rfl
theorem strsD_str : ∀ bs : List Str, strsD (bs.map D.str) = some bs
  | [] => rfl
  | b :: bs => by show (strsD (bs.map D.str)).map (b :: ·) = _; rw [strsD_str bs]; rfl
theorem n_all {K : PySem.W.Frag} : SndN K (rAll K) gAll := fun B H vs ds o hx hr hg Q q => by
  unfold gAll at hg
  split at hg
  · obtain ⟨bs, e, rfl⟩ := Option.map_eq_some_iff.mp hg
    obtain ⟨v, rfl, h⟩ := hr.one
    obtain ⟨p, xs, rfl, h1, h2⟩ := h
    rw [boolsD_map e] at h2
    rw [repL_of_bools h2] at h1
    exact ⟨_, _, rfl, Evl.sq_of h1, q.fr hx (.bl _)⟩
  · cases hg
theorem n_any {K : PySem.W.Frag} : SndN K (rAny K) gAny := fun B H vs ds o hx hr hg Q q => by
  unfold gAny at hg
  split at hg
  · obtain ⟨bs, e, rfl⟩ := Option.map_eq_some_iff.mp hg
    obtain ⟨v, rfl, h⟩ := hr.one
    obtain ⟨p, xs, rfl, h1, h2⟩ := h
    rw [boolsD_map e] at h2
    rw [repL_of_bools h2] at h1
    exact ⟨_, _, rfl, Evl.sq_of h1, q.fr hx (.bl _)⟩
  · cases hg
theorem n_sum {K : PySem.W.Frag} : SndN K (rSum K) gSum := fun B H vs ds o hx hr hg Q q => by
  unfold gSum at hg
  split at hg
  · obtain ⟨bs, e, rfl⟩ := Option.map_eq_some_iff.mp hg
    obtain ⟨v, rfl, h⟩ := hr.one
    obtain ⟨p, xs, rfl, h1, h2⟩ := h
    rw [intsD_map e] at h2
    rw [repL_of_ints h2] at h1
    exact ⟨_, _, rfl, Evl.sq_of h1, q.fr hx (.int _)⟩
  · cases hg
end
end Dn


namespace Dn
open PySem PySem.Spec PyProof.Rows L2
/-- a list, a tuple, a text walked -/
def iAny (K : PySem.W.Frag) (te : TE) : TI := fun σ H R => te σ H fun x H1 => (∃ a, x = .ref a ∧ (∃ xs, SqL K H1 a xs) ∧ R (Itl K a) H1) ∨ (∃ a, x = .ref a ∧ (∃ xs, SqT K H1 a xs) ∧ R (Itt K a) H1) ∨ (∃ z, x = .str z ∧ R (Its z) H1)
theorem pi_any {X : Cx} {tg e : Expr} {te : TE} (he : PE X e te) : PI X tg e (iAny X.K te) := by
  refine ⟨fun pins s σ H R I h => ?_⟩
  refine thn (he.run pins s σ H _ I h) fun v s1 ⟨x, H1, I1, r1, q1⟩ => ?_
  rcases q1 with ⟨a, e, ⟨xs, hq⟩, q⟩ | ⟨a, e, ⟨xs, hq⟩, q⟩ | ⟨x', ex, q⟩
  · subst e
    cases r1
    obtain ⟨its, rv, p, hz⟩ := I1.list hq
    refine wpAny_pyIter_list p.isList ?_
    refine ⟨s1.heap.objs.size, [s1.heap.objs.size], _, _, H1, rfl, I1.kept (t' := s1.toks) fun b o e => Heap.get?_push_of_some _ e, turn_list a _, ⟨_, Heap.get?_push_size _ rfl, rfl, rfl⟩, fun b hb => ?_, q⟩
    have e : b = s1.heap.objs.size := by simpa using hb
    subst e
    exact I1.fpOk (Nat.le_refl _) (I1.hok.fresh (Nat.le_refl _))
  · subst e
    cases r1
    obtain ⟨its, rv, p, hz⟩ := I1.tuple hq
    refine wpAny_pyIter_tuple (show s1.heap.IsTuple a its.toArray from p) ?_
    refine ⟨s1.heap.objs.size, [s1.heap.objs.size], _, _, H1, rfl, I1.kept (t' := s1.toks) fun b o e => Heap.get?_push_of_some _ e, turn_tuple a _, ⟨_, Heap.get?_push_size _ rfl, rfl, rfl⟩, fun b hb => ?_, q⟩
    have e : b = s1.heap.objs.size := by simpa using hb
    subst e
    exact I1.fpOk (Nat.le_refl _) (I1.hok.fresh (Nat.le_refl _))
  · subst ex
    obtain ⟨t, rfl⟩ := r1
    cases ha : x'.cps.all (· < 128)
    · exact wpAny_pyIter_wide ha (pi_one (tk := s1.toks) I1 _ (turn_str _ x' t "str_iterator" (.inr rfl)) ⟨_, Heap.get?_push_size _ rfl, rfl, rfl⟩ q)
    · exact wpAny_pyIter_ascii ha (pi_one (tk := s1.toks) I1 _ (turn_str _ x' t "str_ascii_iterator" (.inl rfl)) ⟨_, Heap.get?_push_size _ rfl, rfl, rfl⟩ q)
end Dn

namespace Dn
open PySem L2
open Evl (Ex)
/-! ## 14. Sources -/
def signs (z : Str) : List D := z.cps.toList.map fun c => .str ⟨#[c]⟩
def seqD : D → Option (List D)
  | .lst ds => some ds
  | .tup ds => some ds
  | .scr ns => some (ns.map .int)
  | .str z => some (signs z)
  | _ => none
def sSeqD (f : M O) : M (List D) := f.bind fun o e => (seqD o.d).map fun ds => .ok ds e
def rngD (lo hi : Int) : List D := (List.range (hi - lo).toNat).map fun i => .int (lo + (i : Nat))
def inR (i : Int) : Bool := decide (-(2 ^ 62) ≤ i ∧ i < 2 ^ 62)
def sRng1 (p : P) : M (List D) := (ops [p]).bind fun ds e => match ds with
  | [.int j] => if inR j then some (.ok (rngD 0 j) e) else none
  | _ => none
def sRng2 (p q : P) : M (List D) := (ops [p, q]).bind fun ds e => match ds with
  | [.int i, .int j] => if inR i && inR j then some (.ok (rngD i j) e) else none
  | _ => none
/-- range(a, b, -1) -/
def sRngD (p q : P) : M (List D) := (ops [p, q, .v (eC (.int (-1)))]).bind fun ds e => match ds with
  | [.int i, .int j, .int _] => if inR i && inR j then some (.ok ((List.range (i - j).toNat).map fun k => .int (i + (k : Nat) * (-1))) e) else none
  | _ => none
def enumD (n : Nat) : List D → List D
  | [] => []
  | d :: ds => .tup [.int (n : Nat), d] :: enumD (n + 1) ds
def sEnum (p : P) : M (List D) := (ops [p]).bind fun ds e => match ds with
  | [.lst xs] => some (.ok (enumD 0 xs) e)
  | _ => none
def zipD : List D → List D → List D
  | x :: xs, y :: ys => .tup [x, y] :: zipD xs ys
  | _, _ => []
def sZip (p q : P) : M (List D) := (ops [p, q]).bind fun ds e => match ds with
  | [.lst xs, .lst ys] => some (.ok (zipD xs ys) e)
  | [.tup xs, .tup ys] => some (.ok (zipD xs ys) e)
  | _ => none
section
variable {K : PySem.W.Frag} {B H : Hp}
theorem walk_at {J : It} {xs : List V} {ds : List D} {G : Hp → Prop} (w : Walk J xs.length G (YAt xs)) (hG : ∀ H, Ex B H → G H) (r : RepL K B xs ds) : WalkD K J B ds := by
  refine ⟨G, YAt xs, by rw [← r.length]; exact w, hG, fun i H x H' B1 hi h1 h2 y => ?_⟩
  obtain ⟨rfl, hx⟩ := y
  obtain ⟨d, hd, rd⟩ := r.get' hx
  exact ⟨B1, d, Gr.refl h2, hd, rd.mono h1⟩
theorem walkD_lst {a : Addr} {xs : List V} {ds : List D} (h : SqL K B a xs) (r : RepL K B xs ds) : WalkD K (Itl K a) B ds := walk_at walk_list (fun H e => Evl.ex_l e h) r
theorem walkD_tup {a : Addr} {xs : List V} {ds : List D} (h : SqT K B a xs) (r : RepL K B xs ds) : WalkD K (Itt K a) B ds := walk_at walk_tup (fun H e => Evl.ex_t e h) r
theorem walkD_str {z : Str} : WalkD K (Its z) B (signs z) := by
  refine ⟨_, _, by unfold signs; rw [List.length_map, Array.length_toList]; exact walk_str, fun _ _ => trivial, fun i H x H' B1 hi h1 h2 y => ?_⟩
  obtain ⟨rfl, c, hc, rfl⟩ := y
  refine ⟨B1, .str ⟨#[c]⟩, Gr.refl h2, ?_, .str _⟩
  unfold signs
  rw [List.getElem?_map, Array.getElem?_toList, hc]
  rfl
theorem walkD_rng {lo hi : Int} : WalkD K (Itr lo (hi - lo).toNat) B (rngD lo hi) := by
  refine ⟨_, _, by unfold rngD; rw [List.length_map, List.length_range]; exact walk_range, fun _ _ => trivial, fun i H x H' B1 hi' h1 h2 y => ?_⟩
  obtain ⟨rfl, rfl⟩ := y
  refine ⟨B1, .int (lo + (i : Nat)), Gr.refl h2, ?_, .int _⟩
  unfold rngD at hi' ⊢
  rw [List.length_map, List.length_range] at hi'
  rw [List.getElem?_map, List.getElem?_range hi']
  rfl
theorem walkD_rngD {lo : Int} {n : Nat} : WalkD K (Itc lo (-1) n) B ((List.range n).map fun k => .int (lo + (k : Nat) * (-1))) := by
  refine ⟨_, _, by rw [List.length_map, List.length_range]; exact walk_rangeC, fun _ _ => trivial, fun i H x H' B1 hi' h1 h2 y => ?_⟩
  obtain ⟨rfl, rfl⟩ := y
  refine ⟨B1, .int (lo + (i : Nat) * (-1)), Gr.refl h2, ?_, .int _⟩
  rw [List.length_map, List.length_range] at hi'
  rw [List.getElem?_map, List.getElem?_range hi']
  rfl
theorem enumD_len : ∀ (ds : List D) (n : Nat), (enumD n ds).length = ds.length
  | [], _ => rfl
  | d :: ds, n => by show (enumD (n + 1) ds).length + 1 = ds.length + 1; rw [enumD_len ds]
theorem enumD_get : ∀ (ds : List D) (n i : Nat) (d : D), ds[i]? = some d → (enumD n ds)[i]? = some (.tup [.int ((n + i : Nat) : Int), d])
  | [], _, _, _, h => by simp at h
  | x :: ds, n, 0, d, h => by
    have h' : some x = some d := h
    cases h'
    rfl
  | x :: ds, n, i + 1, d, h => by
    have := enumD_get ds (n + 1) i d h
    rw [show n + 1 + i = n + (i + 1) by omega] at this
    exact this
theorem walkD_enum {a : Addr} {xs : List V} {ds : List D} (h : SqL K B a xs) (r : RepL K B xs ds) : WalkD K (Ite K a) B (enumD 0 ds) := by
  refine ⟨_, _, by rw [enumD_len, ← r.length]; exact walk_enum (xs := xs), fun H e => Evl.ex_l e h, fun i H x H' B1 hi h1 h2 y => ?_⟩
  obtain ⟨T, u, v, rfl, hT, rfl, hu, hv⟩ := y
  cases hu
  obtain ⟨d, hd, rd⟩ := r.get' hv
  have g := Gr.new h2 hT (.tup [.int (i : Nat), v])
  refine ⟨_, .tup [.int ((0 + i : Nat) : Int), d], g, enumD_get ds 0 i d hd, .tup (.inl upd_same) ?_⟩
  rw [Nat.zero_add]
  exact .cons (.int _) (.cons ((rd.mono h1).mono g.b) .nil)
theorem zipD_len : ∀ (xs ys : List D), (zipD xs ys).length = min xs.length ys.length
  | [], ys => by simp [zipD]
  | x :: xs, [] => by simp [zipD]
  | x :: xs, y :: ys => by show (zipD xs ys).length + 1 = _; rw [zipD_len xs ys, List.length_cons, List.length_cons]; omega
theorem zipD_get : ∀ (xs ys : List D) (i : Nat) (x y : D), xs[i]? = some x → ys[i]? = some y → (zipD xs ys)[i]? = some (.tup [x, y])
  | [], _, _, _, _, h, _ => by simp at h
  | _ :: _, [], _, _, _, _, h => by simp at h
  | a :: xs, b :: ys, 0, x, y, h1, h2 => by
    have h1' : some a = some x := h1
    have h2' : some b = some y := h2
    cases h1'; cases h2'; rfl
  | a :: xs, b :: ys, i + 1, x, y, h1, h2 => zipD_get xs ys i x y h1 h2
theorem walkD_zip {a b : Addr} {xs ys : List V} {ds es : List D} (h1 : SqL K B a xs) (h2 : SqL K B b ys) (r1 : RepL K B xs ds) (r2 : RepL K B ys es) : WalkD K (Itz K a b) B (zipD ds es) := by
  refine ⟨_, _, walk_zip (xs := xs) (ys := ys) (by rw [zipD_len, r1.length, r2.length]), fun H e => ⟨Evl.ex_l e h1, Evl.ex_l e h2⟩, fun i H x H' B1 hi k1 k2 y => ?_⟩
  obtain ⟨T, u, v, rfl, hT, rfl, hu, hv⟩ := y
  obtain ⟨d, hd, rd⟩ := r1.get' hu
  obtain ⟨d2, hd2, rd2⟩ := r2.get' hv
  have g := Gr.new k2 hT (.tup [u, v])
  exact ⟨_, .tup [d, d2], g, zipD_get ds es i d d2 hd hd2, .tup (.inl upd_same) (.cons ((rd.mono k1).mono g.b) (.cons ((rd2.mono k1).mono g.b) .nil))⟩
end
section
variable {X : Cx} {W : WX} {e a b c tg : Expr} {pos p : Pos} {f : M O} {p1 p2 : P}
theorem i_seq (h : PE X e (tE X.K X.mg W f)) : PI X tg e (tSrc X.K X.mg W (sSeqD f)) := pi_imp (pi_any h) fun σ H R h => by
  obtain ⟨B, e, S, r, h⟩ := h
  refine ⟨B, e, S, r, h.bind.imp (fun o e' h v B' H' S' T vl fr => ?_) fun _ _ z => z⟩
  obtain ⟨B2, vl2, f2⟩ := vl.freeze
  have f3 : Fr B H (tot S) B2 H' (tot S') := fr.trans ⟨f2.b, fun a o q _ => q, fun a z => .inl (.inr z), fun a u q => (f2.c a u q).elim .inl fun z => .inr (z.elim (fun z => .inl (.inl z)) .inr), fun a o q => ⟨o, q⟩⟩
  have rv := vl2.ro.1
  have hx := vl2.rp.ex
  generalize o.d = d at *
  have h0 : Post ((seqD d).map fun ds => Ro.ok ds e') (fun ds e' => ∀ J B' H' S', Rp X.K B' H' σ e' S' → Fr B H (tot S) B' H' (tot S') → WalkD X.K J B' ds → R J H') (fun x e' => ExE X.K X.mg W B H S σ x e') := h
  cases rv with
  | non => exact h0.elim
  | bl b => exact h0.elim
  | int b => exact h0.elim
  | opq v => exact h0.elim
  | dct _ _ _ => exact h0.elim
  | ins _ _ _ _ => exact h0.elim
  | str z => exact .inr (.inr ⟨z, rfl, (show ∀ J B' H' S', Rp X.K B' H' σ e' S' → Fr B H (tot S) B' H' (tot S') → WalkD X.K J B' (signs z) → R J H' from h0) _ B2 H' S' vl2.rp f3 walkD_str⟩)
  | lst h1 h2 => exact .inl ⟨_, rfl, ⟨_, Evl.sq_of (hx _ _ h1)⟩, (show ∀ J B' H' S', Rp X.K B' H' σ e' S' → Fr B H (tot S) B' H' (tot S') → WalkD X.K J B' _ → R J H' from h0) _ B2 H' S' vl2.rp f3 (walkD_lst (Evl.sq_of h1) h2)⟩
  | tup h1 h2 => exact .inr (.inl ⟨_, rfl, ⟨_, Evl.ex_t hx h1.sq⟩, (show ∀ J B' H' S', Rp X.K B' H' σ e' S' → Fr B H (tot S) B' H' (tot S') → WalkD X.K J B' _ → R J H' from h0) _ B2 H' S' vl2.rp f3 (walkD_tup h1.sq h2)⟩)
  | scr h1 => exact .inl ⟨_, rfl, ⟨_, Evl.ex_l hx h1⟩, (show ∀ J B' H' S', Rp X.K B' H' σ e' S' → Fr B H (tot S) B' H' (tot S') → WalkD X.K J B' _ → R J H' from h0) _ B2 H' S' vl2.rp f3 (walkD_lst h1 (repL_ints _))⟩
theorem inR_of {i : Int} (h : inR i = true) : -(2 ^ 62) ≤ i ∧ i < 2 ^ 62 := of_decide_eq_true h
theorem rng1_imp {σ : St} {H : Hp} {R : It → Hp → Prop} (h : tSrc X.K X.mg W (sRng1 p1) σ H R) : iRng1 (tPs X.K X.mg W [p1]) σ H R := by
  obtain ⟨B, e, S, r, h⟩ := h
  refine ops_run [p1] _ r (h.bind.imp (fun ds e' h vs B' H' S' r' rl f => ?_) fun _ _ z => z)
  split at h
  · rename_i j
    split at h
    · rename_i hj
      obtain ⟨v, rfl, rv⟩ := rl.one
      cases rv
      obtain ⟨h1, h2⟩ := inR_of hj
      refine ⟨j, rfl, h1, h2, (show ∀ J B' H' S', Rp X.K B' H' σ e' S' → Fr B H (tot S) B' H' (tot S') → WalkD X.K J B' _ → R J H' from h) _ B' H' S' r' f ?_⟩
      have := walkD_rng (K := X.K) (B := B') (lo := 0) (hi := j)
      rwa [show j - 0 = j by omega] at this
    · exact h.elim
  · exact h.elim
theorem i_rng1 (hg : Gl X "range") (hm : X.mg "range" = none) (ha : PA X [a] (tPs X.K X.mg W [p1])) (hs : starEach [a] X.env = [(false, eval a X.env)] := by rfl) : PI X tg (.Call (.Name "range" p) [a] [] pos) (tSrc X.K X.mg W (sRng1 p1)) := pi_imp (pi_range1 hg hm ha hs) fun σ H R h => rng1_imp h
theorem i_rng2 (hg : Gl X "range") (hm : X.mg "range" = none) (ha : PA X [a, b] (tPs X.K X.mg W [p1, p2])) (hs : starEach [a, b] X.env = [(false, eval a X.env), (false, eval b X.env)] := by rfl) (hs2 : starEach [b] X.env = [(false, eval b X.env)] := by rfl) : PI X tg (.Call (.Name "range" p) [a, b] [] pos) (tSrc X.K X.mg W (sRng2 p1 p2)) := pi_imp (pi_range2 hg hm ha hs hs2) fun σ H R h => by
  obtain ⟨B, e, S, r, h⟩ := h
  refine ops_run [p1, p2] _ r (h.bind.imp (fun ds e' h vs B' H' S' r' rl f => ?_) fun _ _ z => z)
  split at h
  · rename_i i j
    split at h
    · rename_i hj
      rw [Bool.and_eq_true] at hj
      cases rl with
      | cons a1 rl =>
        cases rl with
        | cons a2 rl =>
          cases rl
          cases a1; cases a2
          exact ⟨i, j, rfl, ⟨(inR_of hj.1).1, (inR_of hj.1).2, (inR_of hj.2).1, (inR_of hj.2).2⟩, (show ∀ J B' H' S', Rp X.K B' H' σ e' S' → Fr B H (tot S) B' H' (tot S') → WalkD X.K J B' _ → R J H' from h) _ B' H' S' r' f walkD_rng⟩
    · exact h.elim
  · exact h.elim
theorem i_enum {elts : List Expr} {kk : Nat} {tpos : Pos} (hg : Gl X "enumerate") (hm : X.mg "enumerate" = none) (ha : PE X e (tE X.K X.mg W f)) (hs : starEach [e] X.env = [(false, eval e X.env)] := by rfl) : PI X (.Tuple elts kk tpos) (.Call (.Name "enumerate" p) [e] [] pos) (tSrc X.K X.mg W (sEnum (.v f))) := pi_imp (pi_enum hg hm (is_c (f := f) ha is_n hs) hs) fun σ H R h => by
  obtain ⟨B, e, S, r, h⟩ := h
  refine items_run [f] _ r ?_
  have h0 := h.bind
  unfold ops at h0
  unfold items
  have h1 := h0.bind
  show Post (M.bind f _ e) _ _
  cases q : f e with
  | none => rw [q] at h1; exact h1.elim
  | some ro =>
    rw [q] at h1
    unfold M.bind
    rw [q]
    cases ro with
    | ex x e' => exact h1
    | ok o e' =>
      intro vs B' H' S' r' rl fr
      have h2 : Post (match [o.d] with
        | [.lst xs] => some (Ro.ok (enumD 0 xs) e')
        | _ => none) (fun ds e' => ∀ J B' H' S', Rp X.K B' H' σ e' S' → Fr B H (tot S) B' H' (tot S') → WalkD X.K J B' ds → R J H') (fun x e' => ExE X.K X.mg W B H S σ x e') := h1
      cases rl with
      | cons rv rl =>
        cases rl
        generalize o.d = d at *
        cases rv with
        | lst k1 k2 => exact ⟨_, _, rfl, Evl.sq_of (r'.ex _ _ k1), (show ∀ J B' H' S', Rp X.K B' H' σ e' S' → Fr B H (tot S) B' H' (tot S') → WalkD X.K J B' _ → R J H' from h2) _ B' H' S' r' fr (walkD_enum (Evl.sq_of k1) k2)⟩
        | _ => exact h2.elim
end
end Dn

namespace Dn
open PySem L2
open Evl (Ex)

/-! ## 15. Comprehensions -/
def wipeE (e : Sl) : List Nat → Sl
  | [] => e
  | v :: vs => (wipeE e vs).set v none
def restE (e0 e : Sl) : List Nat → Sl
  | [] => e
  | v :: vs => match e0[v]? with
    | some (some (.fr d)) => (restE e0 e vs).set v (some (.fr d))
    | _ => restE e0 e vs
def lcL (own : List Nat) (tg : Tg) (t : M Bool) (f : M O) : List D → List D → Sl → Option (List D × Sl)
  | [], acc, e => some (acc, e)
  | d :: ds, acc, e => match tg.go d e with
    | none => none
    | some e1 => match t e1 with
      | some (.ok b e2) => if b then (match f e2 with
          | some (.ok o e3) => if acc.length < sizeLine then lcL own tg t f ds (acc ++ [o.d]) (wipeE e3 own) else none
          | _ => none) else lcL own tg t f ds acc (wipeE e2 own)
      | _ => none
def eComp (own : List Nat) (src : M (List D)) (tg : Tg) (t : M Bool) (f : M O) : M O := src.bind fun ds e => match lcL own tg t f ds [] (wipeE e own) with
  | some (acc, e') => some (.ok (.lst acc) (restE e e' own))
  | none => none
def cYes : M Bool := M.pure true

theorem wipe_at {σ : St} {own : List Nat} {j : Nat} : (wipe σ own)[j]? = if j ∈ own then (σ[j]?).map (fun _ => none) else σ[j]? := by
  induction own with
  | nil => simp [wipe]
  | cons v vs ih =>
    unfold wipe
    by_cases hj : v = j
    · subst hj
      rw [List.getElem?_set_self', ih, if_pos List.mem_cons_self]
      by_cases hv : v ∈ vs
      · rw [if_pos hv]
        cases σ[v]? <;> simp
      · rw [if_neg hv]
        cases σ[v]? <;> simp
    · rw [List.getElem?_set_ne hj, ih]
      by_cases hv : j ∈ vs
      · rw [if_pos hv, if_pos (List.mem_cons_of_mem _ hv)]
      · rw [if_neg hv, if_neg (by rw [List.mem_cons, not_or]; exact ⟨fun z => hj z.symm, hv⟩)]
theorem wipeE_len (e : Sl) : ∀ own : List Nat, (wipeE e own).length = e.length
  | [] => rfl
  | v :: vs => by unfold wipeE; rw [List.length_set, wipeE_len e vs]
theorem wipeE_at {e : Sl} {own : List Nat} {j : Nat} {o : O} (h : (wipeE e own)[j]? = some (some o)) : j ∉ own ∧ e[j]? = some (some o) := by
  induction own with
  | nil => exact ⟨by simp, h⟩
  | cons v vs ih =>
    unfold wipeE at h
    by_cases hj : v = j
    · subst hj
      rw [List.getElem?_set_self'] at h
      cases q : (wipeE e vs)[v]? with
      | none => rw [q] at h; cases h
      | some u => rw [q] at h; cases h
    · rw [List.getElem?_set_ne hj] at h
      obtain ⟨h1, h2⟩ := ih h
      exact ⟨by rw [List.mem_cons, not_or]; exact ⟨fun z => hj z.symm, h1⟩, h2⟩
theorem restE_len (e0 e : Sl) : ∀ own : List Nat, (restE e0 e own).length = e.length
  | [] => rfl
  | v :: vs => by
    unfold restE
    split
    · rw [List.length_set, restE_len e0 e vs]
    · exact restE_len e0 e vs
theorem restE_at {e0 e : Sl} {own : List Nat} {j : Nat} {o : O} (h : (restE e0 e own)[j]? = some (some o)) : (j ∈ own ∧ e0[j]? = some (some o) ∧ ∃ d, o = .fr d) ∨ e[j]? = some (some o) := by
  induction own with
  | nil => exact .inr h
  | cons v vs ih =>
    unfold restE at h
    split at h
    · rename_i d hd
      by_cases hj : v = j
      · subst hj
        rw [List.getElem?_set_self'] at h
        cases q : (restE e0 e vs)[v]? with
        | none => rw [q] at h; cases h
        | some u =>
          rw [q] at h
          cases h
          exact .inl ⟨List.mem_cons_self, hd, d, rfl⟩
      · rw [List.getElem?_set_ne hj] at h
        rcases ih h with ⟨a, b⟩ | a
        · exact .inl ⟨List.mem_cons_of_mem _ a, b⟩
        · exact .inr a
    · rcases ih h with ⟨a, b⟩ | a
      · exact .inl ⟨List.mem_cons_of_mem _ a, b⟩
      · exact .inr a
theorem wipe_eq {σ σ' : St} {own : List Nat} (l : σ.length = σ'.length) (h : ∀ j : Nat, j ∉ own → σ[j]? = σ'[j]?) : wipe σ own = wipe σ' own := by
  apply List.ext_getElem?
  intro j
  rw [wipe_at, wipe_at]
  by_cases hj : j ∈ own
  · rw [if_pos hj, if_pos hj]
    by_cases hl : j < σ.length
    · rw [List.getElem?_eq_getElem hl, List.getElem?_eq_getElem (l ▸ hl)]; rfl
    · rw [List.getElem?_eq_none (by omega), List.getElem?_eq_none (by omega)]
  · rw [if_neg hj, if_neg hj]; exact h j hj
theorem wipe_wipe (σ : St) (own : List Nat) : wipe (wipe σ own) own = wipe σ own := by
  refine wipe_eq (wipe_length σ own) fun j hj => ?_
  rw [wipe_at, if_neg hj]

section
variable {K : PySem.W.Frag} {mg : Str → Option Value} {W : WX} {B B' H H' : Hp} {v : V} {o : O} {σ σ' : St} {e e' : Sl} {S S' : Nat → Addr → Prop} {T T' : Addr → Prop}
theorem Rp.wipe (r : Rp K B H σ e S) (own : List Nat) : Rp K B H (L2.wipe σ own) (wipeE e own) S :=
  ⟨by rw [wipe_length, wipeE_len]; exact r.len, r.ex, fun i o ho => by
    obtain ⟨h1, h2⟩ := wipeE_at ho
    obtain ⟨v, h3, h4⟩ := r.rep i o h2
    exact ⟨v, by rw [wipe_at, if_neg h1]; exact h3, h4⟩, r.dis, r.own⟩
theorem Rp.upd (r : Rp K B H σ e S) {p : Addr} {u : HO} (hb : B p = none) (hs : ∀ i, ¬ S i p) : Rp K B (upd H p u) σ e S := by
  refine ⟨r.len, fun a o ha => ?_, fun i o ho => ?_, r.dis, fun i a ha => ⟨(r.own i a ha).1, ?_⟩⟩
  · by_cases hp : a = p
    · subst hp; rw [hb] at ha; cases ha
    · rw [upd_ne hp]; exact r.ex a o ha
  · obtain ⟨v, h1, h2⟩ := r.rep i o ho
    refine ⟨v, h1, ?_⟩
    cases o with
    | fr d => exact h2
    | lst ds =>
      obtain ⟨q, xs, e1, h3, h4, h5⟩ := h2
      refine ⟨q, xs, e1, ?_, h4, h5⟩
      rw [upd_ne]
      · exact h3
      · intro z
        exact hs i ((h5 p).mpr z.symm)
    | dct kvs =>
      obtain ⟨q, kv, e1, h3, hk, h4, h5⟩ := h2
      refine ⟨q, kv, e1, ?_, hk, h4, h5⟩
      rw [upd_ne]
      · exact h3
      · intro z
        exact hs i ((h5 p).mpr z.symm)
    | ins c ns xs =>
      obtain ⟨q, C, dx, fs, e1, h3, hc, hk, h4, h5⟩ := h2
      refine ⟨q, C, dx, fs, e1, ?_, hc, hk, h4, h5⟩
      rw [upd_ne]
      · exact h3
      · intro z
        exact hs i ((h5 p).mpr z.symm)
    | exn a d x => exact h2
    | tr t => exact RepT.frame (Ex.refl B) h2 fun a o z q => by rw [upd_ne (show a ≠ p from fun y => hs i (by rw [← y]; exact z))]; exact q
  · by_cases hp : a = p
    · exact ⟨u, by rw [hp]; exact upd_same⟩
    · obtain ⟨_, o, h⟩ := r.own i a ha
      exact ⟨o, by rw [upd_ne hp]; exact h⟩
theorem Fr.both (f : Fr B H T B' H' T') (U : Addr → Prop) : Fr B H (fun a => U a ∨ T a) B' H' (fun a => U a ∨ T' a) :=
  ⟨f.b, fun a o h n => f.k a o h fun z => n (.inr z), fun a z => z.elim (fun z => .inl (.inl z)) fun z => (f.n a z).elim (fun z => .inl (.inr z)) .inr, fun a o h => (f.c a o h).elim .inl fun z => .inr (z.elim (fun z => .inl (.inr z)) .inr), f.a⟩
theorem Fr.upd {p : Addr} {u u' : HO} (h : H p = some u) (hT : T p) : Fr B H T B (upd H p u') T :=
  ⟨Ex.refl B, fun a o ha hn => by rw [upd_ne (fun z => hn (by rw [z]; exact hT))]; exact ha, fun _ z => .inl z, fun _ _ z => .inl z, fun a o ha => by
    by_cases hp : a = p
    · exact ⟨u', by rw [hp]; exact upd_same⟩
    · exact ⟨o, by rw [upd_ne hp]; exact ha⟩⟩
theorem setAll_slen : ∀ (is : List Nat) (ds : List D) {e e2 : Sl}, setAll is ds e = some e2 → e2.length = e.length
  | [], [], e, e2, h => by cases h; rfl
  | [], _ :: _, _, _, h => by cases h
  | _ :: _, [], _, _, h => by cases h
  | i :: is, d :: ds, e, e2, h => by
    rw [setAll_slen is ds (e := e.set i (some (.fr d))) h, List.length_set]
theorem go_len {tg : Tg} {d : D} {e e2 : Sl} (h : tg.go d e = some e2) : e2.length = e.length := by
  cases tg with
  | n i => cases h; rw [List.length_set]
  | t is =>
    cases d with
    | tup ds => exact setAll_slen is ds h
    | _ => cases h
/-- a new list of one's own beside the slots, changed in place -/
theorem comp_run {own : List Nat} {tg : Tg} {t : M Bool} {f : M O} {src : M (List D)} {Q : VK} (hk : ∀ i ∈ tg.ix, i ∈ own) (h : tE K mg W (eComp own src tg t f) σ H Q) :
    tLc (tSrc K mg W src) (tTg K tg) (tT K mg (fun _ _ _ _ => False) t) (tE K mg (fun _ _ _ _ => False) f) own σ H Q := by
  obtain ⟨B, e, S, r, h⟩ := h
  refine ⟨B, e, S, r, h.bind.imp (fun ds e1 h J B1 H1 S1 r1 f1 wd D hD => ?_) fun _ _ z => z⟩
  obtain ⟨G, Y, wk, hG, hY⟩ := wd
  cases q : lcL own tg t f ds [] (wipeE e1 own) with
  | none => rw [q] at h; exact h.elim
  | some res =>
    obtain ⟨accF, eF⟩ := res
    rw [q] at h
    have h0 : ∀ v B' H' S' T, Vl K B' H' σ (restE e1 eF own) S' v (.lst accF) T → Fr B H (tot S) B' H' (fun a => T a ∨ tot S' a) → Q v H' := h
    have hbD : B1 D = none := by
      cases qd : B1 D with
      | none => rfl
      | some u => have := r1.ex D u qd; rw [hD] at this; cases this
    have hsD : ∀ i, ¬ S1 i D := fun i z => by
      obtain ⟨_, o, ho⟩ := r1.own i D z
      rw [hD] at ho; cases ho
    have own1 : Own B1 (upd H1 D (.lst [])) (fun a => a = D) := fun a ha => by subst ha; exact ⟨hbD, _, upd_same⟩
    refine lc_it wk (fun i H' => ∃ B' e' S' acc, Vl K B' H' (wipe σ own) e' S' (.ref D) (.lst acc) (fun a => a = D) ∧ Fr B H (tot S) B' H' (fun a => a = D ∨ tot S' a) ∧ Ex B1 B' ∧ lcL own tg t f (ds.drop i) acc e' = some (accF, eF))
      ⟨B1, wipeE e1 own, S1, [], ⟨(r1.upd hbD hsD).wipe own, ⟨D, [], rfl, upd_same, .nil, fun a => Iff.rfl⟩, own1, fun a ha ⟨i, z⟩ => hsD i (ha ▸ z)⟩, ?_, Ex.refl _, by rw [List.drop_zero]; exact q⟩
      (fun i H' hi ⟨B', e', S', acc, vl, f', x', h'⟩ => hG _ (x'.trans vl.rp.ex)) (fun i x H' H2 hi ⟨B', e', S', acc, vl, f', x', h'⟩ hy => ?_) fun H' ⟨B', e', S', acc, vl, f', x', h'⟩ => ?_
    · refine f1.trans ⟨Ex.refl _, fun a o ha _ => ?_, fun a z => z.elim (fun z => .inr (by rw [z]; exact hD)) .inl, fun _ _ z => .inl z, fun a o ha => ⟨o, ?_⟩⟩
      · rw [upd_ne (ne_of_none ha hD)]; exact ha
      · rw [upd_ne (ne_of_none ha hD)]; exact ha
    · obtain ⟨B2, d, gr, hd, rv⟩ := hY i H' x H2 B' hi x' vl.rp.ex hy
      have ed : ds.drop i = d :: ds.drop (i + 1) := by
        rw [List.drop_eq_getElem_cons hi]
        rw [List.getElem?_eq_getElem hi] at hd
        cases hd
        rfl
      rw [ed] at h'
      unfold lcL at h'
      have r2 := vl.rp.grow gr
      have ro2 := vl.ro.grow gr
      have ow2 := vl.own.grow gr
      cases qt : tg.go d e' with
      | none => rw [qt] at h'; cases h'
      | some e2 =>
        rw [qt] at h'
        dsimp only at h'
        refine tg_run (ks := []) r2 rv qt (fun _ _ z => nomatch z) fun σ3 S3 r3 _ t3 n3 => ?_
        have wσ : wipe σ3 own = wipe σ own := by
          rw [← wipe_wipe σ own]
          exact wipe_eq (r3.len.trans ((go_len qt).trans r2.len.symm)) fun j hj => n3 j fun z => hj (hk j z)
        refine ⟨wσ, B2, e2, S3, r3, ?_⟩
        have dj3 : ∀ a, a = D → ¬ tot S3 a := fun a ha z => vl.dj a ha (t3 a z)
        have f3 : Fr B H (tot S) B2 H2 (fun a => a = D ∨ tot S3 a) := (f'.trans (gr.fr _)).imp (fun _ z => z) fun a z => z.elim .inl fun z => .inr (t3 a z)
        cases qc : t e2 with
        | none => rw [qc] at h'; cases h'
        | some rc =>
          rw [qc] at h'
          cases rc with
          | ex _ _ => cases h'
          | ok b e4 =>
            intro B4 H4 S4 r4 f4
            obtain ⟨ro4, ow4, dj4⟩ := ro2.frame ow2 dj3 f4
            have f34 := f3.trans (f4.both fun a => a = D)
            cases b with
            | false =>
              exact iteF ⟨B4, _, S4, acc, ⟨by rw [← wσ]; exact r4.wipe own, ro4, ow4, dj4⟩, f34, (x'.trans gr.b).trans f4.b, h'⟩
            | true =>
              refine iteT ⟨B4, e4, S4, r4, ?_⟩
              cases qf : f e4 with
              | none => simp only [qf, if_true] at h'; cases h'
              | some rf =>
                simp only [qf, if_true] at h'
                cases rf with
                | ex _ _ => cases h'
                | ok o e5 =>
                  intro y B5 H5 S5 T5 vl5 f5
                  obtain ⟨B6, vl6, f6⟩ := vl5.freeze
                  have f56 : Fr B4 H4 (tot S4) B6 H5 (tot S5) := f5.trans ⟨f6.b, fun a o q _ => q, fun a z => .inl (.inr z), fun a u q => (f6.c a u q).elim .inl fun z => .inr (z.elim (fun z => .inl (.inl z)) .inr), fun a o q => ⟨o, q⟩⟩
                  obtain ⟨ro6, ow6, dj6⟩ := ro4.frame ow4 dj4 f56
                  obtain ⟨p, xs, ep, hp, rl, hs⟩ := ro6
                  cases ep
                  dsimp only at h'
                  split at h'
                  · rename_i hlen
                    refine ⟨xs, hp, by rw [rl.length]; exact hlen, B6, _, S5, _, ⟨?_, ⟨D, _, rfl, upd_same, rl.append (.one vl6.ro.1), fun a => Iff.rfl⟩, fun a ha => ⟨(ow6 a ha).1, by subst ha; exact ⟨_, upd_same⟩⟩, dj6⟩, ?_, (x'.trans gr.b).trans (f4.b.trans f56.b), h'⟩
                    · rw [← wσ]
                      exact (vl6.rp.wipe own).upd (ow6 D rfl).1 fun i z => dj6 D rfl ⟨i, z⟩
                    · exact (f34.trans (f56.both fun a => a = D)).trans (Fr.upd hp (.inl rfl))
                  · cases h'
    · rw [List.drop_length] at h'
      have h2 : some (acc, e') = some (accF, eF) := h'
      cases h2
      refine h0 (.ref D) B' H' (fun j => if j ∈ own then noS else S' j) (fun a => a = D) ⟨⟨by rw [restE_len, ← vl.rp.len, wipe_length], vl.rp.ex, fun j o ho => ?_, fun i j a h1 h2 => ?_, fun j a h1 => ?_⟩, vl.ro, vl.own, fun a ha ⟨j, z⟩ => ?_⟩ (f'.imp (fun _ z => z) fun a z => z.elim .inl fun ⟨j, z⟩ => ?_)
      · have hin : ∀ o, eF[j]? = some (some o) → j ∉ own := fun o ho hj => by
          obtain ⟨v, hv, _⟩ := vl.rp.rep j o ho
          rw [wipe_at, if_pos hj] at hv
          cases qq : σ[j]? with
          | none => rw [qq] at hv; cases hv
          | some u => rw [qq] at hv; cases hv
        rcases restE_at ho with ⟨a, b, d, rfl⟩ | a
        · obtain ⟨v, hv, ro⟩ := r1.rep j _ b
          exact ⟨v, hv, by rw [if_pos a]; exact ⟨ro.1.mono x', fun _ z => z⟩⟩
        · obtain ⟨v, hv, ro⟩ := vl.rp.rep j o a
          have hj := hin o a
          rw [wipe_at, if_neg hj] at hv
          exact ⟨v, hv, by rw [if_neg hj]; exact ro⟩
      · skip
        by_cases hi : i ∈ own
        · rw [if_pos hi] at h1; exact h1.elim
        · by_cases hj : j ∈ own
          · rw [if_pos hj] at h2; exact h2.elim
          · rw [if_neg hi] at h1; rw [if_neg hj] at h2; exact vl.rp.dis i j a h1 h2
      · skip
        by_cases hj : j ∈ own
        · rw [if_pos hj] at h1; exact h1.elim
        · rw [if_neg hj] at h1; exact vl.rp.own j a h1
      · dsimp only at z
        by_cases hj : j ∈ own
        · rw [if_pos hj] at z; exact z.elim
        · rw [if_neg hj] at z; exact vl.dj a ha ⟨j, z⟩
      · dsimp only at z
        by_cases hj : j ∈ own
        · rw [if_pos hj] at z; exact z.elim
        · rw [if_neg hj] at z; exact .inr ⟨j, z⟩
end
section
variable {X : Cx} {W : WX}
abbrev WF : WX := fun _ _ _ _ => False
theorem d_comp {elt tgt iter : Expr} {ifs : List Expr} {scope : Scope} {own : List (Str × Nat)} {pos : Pos} {src : M (List D)} {tg : Tg} {t : M Bool} {f : M O} (hc : X.calm = true) (hN : X.N.Nodup) (hi : PI X tgt iter (tSrc X.K X.mg W src)) (ok : BlkOk X.N X.env.scope scope own)
    (hg : ∀ (s : Shared) (H : Hp) (C : Addr) (cl : List (Str × Addr)) (fp : List Addr), PG (X.blk s H scope (compEnvC scope cl C X.env) fp) tgt (tTg X.K tg)) (ht : ∀ (s : Shared) (H : Hp) (C : Addr) (cl : List (Str × Addr)) (fp : List Addr), PTs (X.blk s H scope (compEnvC scope cl C X.env) fp) ifs (tT X.K X.mg WF t))
    (he : ∀ (s : Shared) (H : Hp) (C : Addr) (cl : List (Str × Addr)) (fp : List Addr), PE (X.blk s H scope (compEnvC scope cl C X.env) fp) elt (tE X.K X.mg WF f)) (hk : ∀ i ∈ tg.ix, i ∈ own.map (·.2)) (hs : ∀ x, foldedSetIterable iter X.env x = pure x := by intro _; rfl) :
    PE X (.ListComp elt [⟨tgt, iter, ifs, 0⟩] scope pos) (tE X.K X.mg W (eComp (own.map (·.2)) src tg t f)) := pe_imp (pe_lc hc hN hi ok hg ht he hs) fun _ _ _ h => comp_run hk h
theorem s_setLc {ks : List Nat} {i : Nat} {y : Str} {py : Pos} {elt tgt iter : Expr} {ifs : List Expr} {scope : Scope} {own : List (Str × Nat)} {pos spos : Pos} {src : M (List D)} {tg : Tg} {t : M Bool} {f : M O} (hc : X.calm = true) (hN : X.N.Nodup) (hy : X.N[i]? = some y) (hyl : X.env.scope.names.lookup y = some .local)
    (hsw : swapsWith (.ListComp elt [⟨tgt, iter, ifs, 0⟩] scope pos) (some (.Name y py)) spos.line X.env = pure true) (hi : PI X tgt iter (tSrc X.K X.mg W src)) (ok : BlkOk X.N X.env.scope scope own)
    (hg : ∀ (s : Shared) (H : Hp) (C : Addr) (cl : List (Str × Addr)) (fp : List Addr), PG (X.blk s H scope (compEnvC scope cl C X.env) fp) tgt (tTg X.K tg)) (ht : ∀ (s : Shared) (H : Hp) (C : Addr) (cl : List (Str × Addr)) (fp : List Addr), PTs (X.blk s H scope (compEnvC scope cl C X.env) fp) ifs (tT X.K X.mg WF t))
    (he : ∀ (s : Shared) (H : Hp) (C : Addr) (cl : List (Str × Addr)) (fp : List Addr), PE (X.blk s H scope (compEnvC scope cl C X.env) fp) elt (tE X.K X.mg WF f)) (hk : ∀ i ∈ tg.ix, i ∈ own.map (·.2)) (hki : i ∉ ks := by decide) (hs : ∀ x, foldedSetIterable iter X.env x = pure x := by intro _; rfl) :
    PS X (.Assign [.Name y py] (.ListComp elt [⟨tgt, iter, ifs, 0⟩] scope pos) spos) (tS X.K X.mg W ks (sSet i (eComp (own.map (·.2)) src tg t f))) := ps_imp (ps_setLc hc hN hy hyl hsw hi ok hg ht he hs) fun D σ H h => by
  obtain ⟨B, e, S, r, h⟩ := h
  refine comp_run (mg := X.mg) (W := W) hk ⟨B, e, S, r, h.bind.imp (fun o e' h v B' H' S' T vl f => ?_) fun _ _ z => ExS.toE z⟩
  exact h _ B' H' _ (vl.set i) (Kp.set hki) f.sets
theorem pts_y : PTs X [] (tT X.K X.mg W cYes) := ⟨fun pins s σ H Q I h => by
  obtain ⟨B, e, S, r, h⟩ := h
  exact pts_nil.run pins s σ H Q I (h B H S r (Fr.refl _ _ _))⟩
theorem pts_1 {c : Expr} {t : M Bool} (h : PT X c (tT X.K X.mg W t)) : PTs X [c] (tT X.K X.mg W t) := pts_one h
end
end Dn

namespace Dn
open PySem L2
open Evl (Ex)

/-! ## 16. Methods of texts and of lists that are read -/
def apM (chk : D → Bool) (g : List D → Option O) (p : P) (ps : List P) : M O := match p with
  | .b i => fun e => match e[i]? with
    | some (some o) => if chk o.d then ap g (.b i :: ps) e else none
    | _ => none
  | .v f => f.bind fun o => if chk o.d then ((ops ps).bind fun ds e => (g (o.d :: ds)).map fun r => .ok r e) else M.stuck
def isStr : D → Bool
  | .str _ => true
  | _ => false
def isLst : D → Bool
  | .lst _ => true
  | _ => false
section
variable {K : PySem.W.Frag} {mg : Str → Option Value} {W : WX} {B B' H H' : Hp} {σ : St}
theorem apM_run {C : V → Hp → Prop} {chk : D → Bool} {g : List D → Option O} {p : P} {ps : List P} {r : V → List V → Hp → VK → Prop} {Q : VK} (hC : ∀ B H v d, Ex B H → Rd K B H v d → chk d = true → C v H)
    (hs : ∀ (B H : Hp) (x : V) (vs : List V) (a : D) (ds : List D) (o : O), Ex B H → Rd K B H x a → RdL K B H vs ds → g (a :: ds) = some o → ∀ Q : VK, Giv K B H o Q → r x vs H Q)
    (h : tE K mg W (apM chk g p ps) σ H Q) : tP K mg W p σ H fun x H1 => C x H1 ∧ tPs K mg W ps σ H1 fun vs H2 => r x vs H2 Q := by
  obtain ⟨B, e, S, rp, h⟩ := h
  cases p with
  | b i =>
    unfold apM at h
    dsimp only at h
    cases q : e[i]? with
    | none => rw [q] at h; exact h.elim
    | some u =>
      cases u with
      | none => rw [q] at h; exact h.elim
      | some o =>
        rw [q] at h
        dsimp only at h
        obtain ⟨v, hv, ro⟩ := rp.rep i o q
        by_cases hc : chk o.d = true
        · rw [if_pos hc] at h
          refine ⟨v, hv, hC B H v _ rp.ex (ro.rd rp.ex) hc, ?_⟩
          have h1 := Post.bind (show Post (M.bind (ops (.b i :: ps)) (fun ds e => (g ds).map fun o => .ok o e) e) _ _ from h)
          unfold ops at h1
          rw [q] at h1
          dsimp only at h1
          refine ops_run ps _ rp (h1.bind.imp (fun ds e' h vs B' H' S' r' rl f => ?_) fun _ _ z => z)
          cases q' : e'[i]? with
          | none => rw [q'] at h; exact h.elim
          | some u' =>
            cases u' with
            | none => rw [q'] at h; exact h.elim
            | some o' =>
              rw [q'] at h
              obtain ⟨v', hv', ro'⟩ := r'.rep i o' q'
              rw [hv] at hv'; cases hv'
              obtain ⟨res, hr, h2⟩ := ap_end h
              exact hs B' H' v vs _ _ res r'.ex (ro'.rd r'.ex) rl hr Q (r'.giv fun v B2 H2 S2 T vl f2 => h2 v B2 H2 S2 T vl (f.trans f2))
        · rw [if_neg hc] at h; exact h.elim
  | v f =>
    refine ⟨B, e, S, rp, (show Post (M.bind f _ e) _ _ from h).bind.imp (fun o e1 h v B1 H1 S1 T vl f1 => ?_) fun _ _ z => z⟩
    by_cases hc : chk o.d = true
    · rw [if_pos hc] at h
      refine ⟨hC B1 H1 v _ vl.rp.ex (vl.ro.rd vl.rp.ex) hc, ?_⟩
      have f1' : Fr B H (tot S) B1 H1 (tot S1) := f1.imp (fun _ z => z) fun _ z => .inr z
      refine ops_run ps _ vl.rp (h.bind.imp (fun ds e' h vs B' H' S' r' rl f2 => ?_) fun x e' z => z.step f1')
      obtain ⟨res, hr, h2⟩ := ap_end h
      obtain ⟨ro, _, _⟩ := vl.ro.frame vl.own vl.dj f2
      exact hs B' H' v vs _ _ res r'.ex (ro.rd r'.ex) rl hr Q (r'.giv fun v B2 H2 S2 T vl f3 => h2 v B2 H2 S2 T vl ((f1'.trans f2).trans f3))
    · rw [if_neg hc] at h; exact h.elim
theorem chk_str {v : V} {d : D} (h : Rd K B H v d) (hc : isStr d = true) : ∃ a, v = .str a := by
  cases d with
  | str s => cases h; exact ⟨_, rfl⟩
  | _ => cases hc
theorem chk_lst {v : V} {d : D} (h : Rd K B H v d) (hc : isLst d = true) : tyV K "list" v H := by
  cases d with
  | lst s => obtain ⟨a, xs, rfl, h1, h2⟩ := h; exact .inl ⟨rfl, _, Evl.sq_of h1⟩
  | _ => cases hc
def SndM (K : PySem.W.Frag) (r : V → List V → Hp → VK → Prop) (g : List D → Option O) : Prop := ∀ (B H : Hp) (x : V) (vs : List V) (a : D) (ds : List D) (o : O), Ex B H → Rd K B H x a → RdL K B H vs ds → g (a :: ds) = some o → ∀ Q : VK, Giv K B H o Q → r x vs H Q
end
section
variable {X : Cx} {W : WX} {o e : Expr} {es : List Expr} {p q : P} {ps : List P} {G : List D → Option O} {id : String} {name : Str} {apos pos : Pos} {r : V → List V → Hp → VK → Prop}
theorem d_m1 (slot : Slot "str" name id) (ty : typeOf (.builtin id) = pure (.type "method_descriptor")) (rule : MtR X id r) (hs : SndM X.K r G) (ho : PE X o (tP X.K X.mg W p)) (he : PE X e (tP X.K X.mg W q))
    (hst : starEach [e] X.env = [(false, eval e X.env)] := by rfl) (hbase : attributeBase o name X.env (eval o X.env) = eval o X.env := by rfl) (hline : (apos.endLine == pos.line) = true := by rfl) :
    PE X (.Call (.Attribute o name apos) [e] [] pos) (tE X.K X.mg W (apM isStr G p [q])) := pe_imp (pe_m1 slot ty rule ho he hst hbase hline) fun σ H Q h => apM_run (fun B H v d _ h c => chk_str h c) hs h
theorem d_m0 (slot : Slot "str" name id) (ty : typeOf (.builtin id) = pure (.type "method_descriptor")) (rule : MtR X id r) (hs : SndM X.K r G) (ho : PE X o (tP X.K X.mg W p))
    (hbase : attributeBase o name X.env (eval o X.env) = eval o X.env := by rfl) (hline : (apos.endLine == pos.line) = true := by rfl) :
    PE X (.Call (.Attribute o name apos) [] [] pos) (tE X.K X.mg W (apM isStr G p [])) := pe_imp (pe_m0 slot ty rule ho hbase hline) fun σ H Q h => apM_run (fun B H v d _ h c => chk_str h c) hs h
end
def gJoin : List D → Option O
  | [.str a, .lst ds] => (strsD ds).bind fun ys => if (ys.map (·.length)).sum + ys.length * a.length ≤ 16777216 then some (sO (Txt.join a ys)) else none
  | _ => none
def gCount : List D → Option O
  | [.str a, .str b] => some (iO (Txt.count a b))
  | _ => none
def gStarts : List D → Option O
  | [.str a, .str b] => some (bO (Txt.startswith a b))
  | _ => none
def gRstrip : List D → Option O
  | [.str a, .str b] => if a.length ≤ sizeLine then some (sO (Txt.rstripChars a b)) else none
  | _ => none
def gSIndex : List D → Option O
  | [.str a, .str b] => match Builtin.Str.occurrences a b 0 a.length 1 with
    | i :: _ => some (iO (i : Nat))
    | [] => none
  | _ => none
def gSplit : List D → Option O
  | [.str a, .str b] => if (b.length == 0) = false ∧ a.length + 2 ≤ sizeLine then some (.lst ((Txt.split a b).map .str)) else none
  | _ => none
theorem RdL.nil' {K : PySem.W.Frag} {B H : Hp} {vs : List V} (h : RdL K B H vs []) : vs = [] := by cases h; rfl
theorem n_join {K : PySem.W.Frag} : SndM K (fun x xs H Q => ∃ a p, ∃ ys : List Str, x = .str a ∧ xs = [.ref p] ∧ (SqL K H p (ys.map V.str) ∨ SqT K H p (ys.map V.str)) ∧ (ys.map (·.length)).sum + ys.length * a.length ≤ 16777216 ∧ Q (.str (Txt.join a ys)) H) gJoin := fun B H x vs a ds o hx hr hl hg Q q => by
  unfold gJoin at hg
  split at hg
  · rename_i h; cases h
    obtain ⟨ys, e1, hg⟩ := Option.bind_eq_some_iff.mp hg
    split at hg
    · rename_i hz
      cases hg; cases hr
      obtain ⟨v, rfl, rv⟩ := hl.one
      obtain ⟨p, xs, rfl, h1, h2⟩ := rv
      rw [strsD_map e1] at h2
      rw [repL_of_strs h2] at h1
      exact ⟨_, _, ys, rfl, rfl, .inl (Evl.sq_of h1), hz, q.fr hx (.str _)⟩
    · cases hg
  · cases hg
theorem n_count {K : PySem.W.Frag} : SndM K (fun x xs H Q => ∃ a b, x = .str a ∧ xs = [.str b] ∧ Q (.int (Txt.count a b)) H) gCount := fun B H x vs a ds o hx hr hl hg Q q => by
  unfold gCount at hg
  split at hg
  · rename_i h; cases h; cases hg; cases hr
    obtain ⟨v, rfl, rv⟩ := hl.one
    cases rv
    exact ⟨_, _, rfl, rfl, q.fr hx (.int _)⟩
  · cases hg
theorem n_starts {K : PySem.W.Frag} : SndM K (fun x xs H Q => ∃ a b, x = .str a ∧ xs = [.str b] ∧ Q (.bl (Txt.startswith a b)) H) gStarts := fun B H x vs a ds o hx hr hl hg Q q => by
  unfold gStarts at hg
  split at hg
  · rename_i h; cases h; cases hg; cases hr
    obtain ⟨v, rfl, rv⟩ := hl.one
    cases rv
    exact ⟨_, _, rfl, rfl, q.fr hx (.bl _)⟩
  · cases hg
theorem n_rstrip {K : PySem.W.Frag} : SndM K (fun x xs H Q => ∃ a b, x = .str a ∧ xs = [.str b] ∧ a.length ≤ sizeLine ∧ Q (.str (Txt.rstripChars a b)) H) gRstrip := fun B H x vs a ds o hx hr hl hg Q q => by
  unfold gRstrip at hg
  split at hg
  · rename_i h; cases h
    split at hg
    · rename_i hz
      cases hg; cases hr
      obtain ⟨v, rfl, rv⟩ := hl.one
      cases rv
      exact ⟨_, _, rfl, rfl, hz, q.fr hx (.str _)⟩
    · cases hg
  · cases hg
theorem n_sindex {K : PySem.W.Frag} : SndM K (fun x xs H Q => ∃ a b i rest, x = .str a ∧ xs = [.str b] ∧ Builtin.Str.occurrences a b 0 a.length 1 = i :: rest ∧ Q (.int (i : Nat)) H) gSIndex := fun B H x vs a ds o hx hr hl hg Q q => by
  unfold gSIndex at hg
  split at hg
  · rename_i h; cases h
    split at hg
    · rename_i i rest hz
      cases hg; cases hr
      obtain ⟨v, rfl, rv⟩ := hl.one
      cases rv
      exact ⟨_, _, i, rest, rfl, rfl, hz, q.fr hx (.int _)⟩
    · cases hg
  · cases hg
theorem n_split {K : PySem.W.Frag} : SndM K (fun x xs H Q => ∃ a b, x = .str a ∧ xs = [.str b] ∧ (b.length == 0) = false ∧ a.length + 2 ≤ sizeLine ∧ rNewStrs (Txt.split a b) H Q) gSplit := fun B H x vs a ds o hx hr hl hg Q q => by
  unfold gSplit at hg
  split at hg
  · rename_i h; cases h
    split at hg
    · rename_i hz
      cases hg; cases hr
      obtain ⟨v, rfl, rv⟩ := hl.one
      cases rv
      exact ⟨_, _, rfl, rfl, hz.1, hz.2, fun p hp => q.newL hx (repL_strs _) hp⟩
    · cases hg
  · cases hg

/-! ## 17. isinstance with a built-in class -/
def isi (T : String) : D → Option Bool
  | .non => kitB "NoneType" T
  | .bl _ => kitB "bool" T
  | .int _ => kitB "int" T
  | .str _ => kitB "str" T
  | .lst _ => kitB "list" T
  | .scr _ => kitB "list" T
  | .tup _ => kitB "tuple" T
  | _ => none
def gIsi (T : String) : List D → Option O
  | [d] => (isi T d).map bO
  | _ => none
theorem tyx_lst {K : PySem.W.Frag} {H : Hp} {a : Addr} {xs : List V} (h : SqL K H a xs) : TyX K H (.ref a) (.type "list") := by
  rcases h with (h | ⟨o, h⟩) | ⟨o, its, n, h, c, _⟩
  · exact .base (.lst h)
  · exact .base (.frz h)
  · exact .kList h c
theorem tyx_tup {K : PySem.W.Frag} {H : Hp} {a : Addr} {xs : List V} (h : SqT K H a xs) : TyX K H (.ref a) (.type "tuple") := by
  rcases h with (h | ⟨o, h⟩) | ⟨o, its, n, h, c, _⟩
  · exact .base (.tup h)
  · exact .fTuple h
  · exact .kTuple h c
theorem n_isi {K : PySem.W.Frag} {T : String} : SndN K (fun vs H Q => rIsi K (vs ++ [.ty T]) H Q) (gIsi T) := fun B H vs ds o hx hr hg Q q => by
  unfold gIsi at hg
  split at hg
  · obtain ⟨b, hb, rfl⟩ := Option.map_eq_some_iff.mp hg
    obtain ⟨v, rfl, rv⟩ := hr.one
    rename_i d
    have go : ∀ t, TyX K H v (.type t) → kitB t T = some b → rIsi K ([v] ++ [.ty T]) H Q := fun t ty e => ⟨v, _, _, _, b, rfl, .ty T, ty, kit_ty e, q.fr hx (.bl _)⟩
    cases d with
    | non => cases rv; exact go _ (.base .non) hb
    | bl _ => cases rv; exact go _ (.base (.bl _)) hb
    | int _ => cases rv; exact go _ (.base (.int _)) hb
    | str _ => cases rv; exact go _ (.base (.str _)) hb
    | lst _ => obtain ⟨a, xs, rfl, h1, h2⟩ := rv; exact go _ (tyx_lst (Evl.sq_of h1)) hb
    | tup _ => cases rv with
      | tup h1 h2 => exact go _ (tyx_tup (Evl.ex_t hx h1.sq)) hb
    | scr _ => cases rv with
      | scr h1 => exact go _ (tyx_lst (Evl.ex_l hx h1)) hb
    | opq => cases hb
    | dct _ _ => cases hb
    | ins _ _ _ => cases hb
  · cases hg
section
variable {X : Cx} {W : WX} {e : Expr} {p : P} {p1 p2 pos : Pos} {T : String}
theorem d_isi {x : Str} (hg : Gl X "isinstance") (hm : X.mg "isinstance" = none) (hgT : Gl X x) (hmT : X.mg x = none) (hvT : bootBuiltins x = some (.type T)) (hv : bootBuiltins "isinstance" = some (.builtin "isinstance")) (ha : PE X e (tP X.K X.mg W p)) (hn : x ≠ "__name__" := by decide) (hdb : (x == ("__debug__" : Str)) = false := by decide)
    (hs1 : starEach (e :: [.Name x p2]) X.env = (false, eval e X.env) :: starEach [.Name x p2] X.env := by rfl) (hs2 : starEach (.Name x p2 :: []) X.env = (false, eval (.Name x p2) X.env) :: starEach [] X.env := by rfl)
    (hpl : (backTo pos (starEach [.Name x p2] X.env)).any (·.1) = false := by rfl) : PE X (.Call (.Name "isinstance" p1) [e, .Name x p2] [] pos) (tE X.K X.mg W (ap (gIsi T) [p])) :=
  pe_imp (pe_callB call_isi hg hm hv (pa_cons ha (pa_cons (pe_bltn hgT hmT hvT (v := .ty T) rfl hn hdb) pa_nil hs2) hs1) (by decide) (by decide) hs1 hpl) fun _ _ _ h => apN_run (n_isi) _ h
end

/-! ## 18. Slices -/
def cutD {α : Type} (xs : List α) (lo hi : Option Int) : List α := (xs.drop (HT.sIx xs.length 0 lo)).take (HT.sIx xs.length xs.length hi - HT.sIx xs.length 0 lo)
def eI (f : M O) : M O := f.bind fun o => match o with
  | .fr (.int i) => M.pure (.fr (.int i))
  | _ => M.stuck
def gRevS : List D → Option O
  | [.lst ds] => some (.lst ds.reverse)
  | _ => none
def slD (d : D) (lo hi : Option Int) : Option O := match d with
  | .lst ds => some (.lst (cutD ds lo hi))
  | .tup ds => some (.fr (.tup (cutD ds lo hi)))
  | .scr ns => some (.lst ((cutD ns lo hi).map .int))
  | .str z => if z.length ≤ sizeLine then some (sO (cutS z lo hi)) else none
  | _ => none
def parts (lo hi : Bool) : List D → Option (D × Option Int × Option Int)
  | d :: ds => match lo, hi, ds with
    | false, false, [] => some (d, none, none)
    | true, false, [.int i] => some (d, some i, none)
    | false, true, [.int j] => some (d, none, some j)
    | true, true, [.int i, .int j] => some (d, some i, some j)
    | _, _, _ => none
  | _ => none
def gSl (lo hi : Bool) (ds : List D) : Option O := (parts lo hi ds).bind fun x => slD x.1 x.2.1 x.2.2
def rSlO (K : PySem.W.Frag) : V → Option Int → Option Int → Hp → VK → Prop := fun x lo hi H Q => rSlL K x lo hi H Q ∨ rSlA K x lo hi H Q ∨ rSlS x lo hi H Q
theorem sl_any {X : Cx} : SlR X (rSlO X.K) := sl_list.or (sl_tupA.or sl_str)
theorem cut_rep {K : PySem.W.Frag} {B : Hp} {xs : List V} {ds : List D} {lo hi : Option Int} (h : RepL K B xs ds) : RepL K B (cutV xs lo hi) (cutD ds lo hi) := by
  unfold cutV cutD
  rw [h.length]
  exact (h.drop _).take _
theorem cut_ints (ns : List Int) (lo hi : Option Int) : cutV (ns.map V.int) lo hi = (cutD ns lo hi).map V.int := by
  unfold cutV cutD
  rw [List.length_map, List.map_take, List.map_drop]
theorem slD_run {K : PySem.W.Frag} {B H : Hp} {x : V} {d : D} {lo hi : Option Int} {o : O} {Q : VK} (hx : Ex B H) (h : Rd K B H x d) (e : slD d lo hi = some o) (q : Giv K B H o Q) : rSlO K x lo hi H Q := by
  unfold slD at e
  split at e
  · cases e
    obtain ⟨a, xs, rfl, h1, h2⟩ := h
    exact .inl ⟨_, _, rfl, Evl.sq_of h1, fun p hp => q.newL hx (cut_rep h2) hp⟩
  · cases e
    cases h with
    | tup h1 h2 =>
      rename_i xs
      refine .inr (.inl ⟨_, _, rfl, Evl.ex_t hx h1.sq, fun hw => ?_, fun _ p hp => q.newT hx (cut_rep h2) hp⟩)
      refine q.fr hx (.tup h1 ?_)
      have e2 := cut_rep (lo := lo) (hi := hi) h2
      have e3 : cutV xs lo hi = xs := by
        unfold cutV
        rw [hw.1, hw.2, List.drop_zero, Nat.sub_zero, List.take_length]
      rw [e3] at e2
      exact e2
  · cases e
    cases h with
    | scr h1 => exact .inl ⟨_, _, rfl, Evl.ex_l hx h1, fun p hp => by rw [cut_ints]; exact q.newL hx (repL_ints _) hp⟩
  · split at e
    · rename_i hl
      cases e; cases h
      exact .inr (.inr ⟨_, rfl, hl, q.fr hx (.str _)⟩)
    · cases e
  · cases e
section
variable {X : Cx} {W : WX} {e a b : Expr} {p q u : P} {p2 pos : Pos}
theorem d_sl00 (h : PE X e (tP X.K X.mg W p)) : PE X (.Subscript e (.Slice none none none p2) pos) (tE X.K X.mg W (ap (gSl false false) [p])) := pe_imp (pe_slice sl_any h po_none po_none) fun σ H Q h =>
  ap1_run (r := fun x H Q => rSlO X.K x none none H Q) (fun B H x a o hx hr hg Q q => slD_run hx hr hg q) Q h
theorem d_sl10 (h : PE X e (tP X.K X.mg W p)) (ha : PE X a (tP X.K X.mg W q)) : PE X (.Subscript e (.Slice (some a) none none p2) pos) (tE X.K X.mg W (ap (gSl true false) [p, q])) := pe_imp (pe_slice sl_any h (po_some ha) po_none) fun σ H Q h =>
  ap2_run (r := fun x y H Q => ∃ i, y = .int i ∧ rSlO X.K x (some i) none H Q) (fun B H x y a b o hx hr hr2 hg Q q => by
    cases b with
    | int i => cases hr2; exact ⟨i, rfl, slD_run hx hr hg q⟩
    | _ => cases hg) Q h
theorem d_sl01 (h : PE X e (tP X.K X.mg W p)) (ha : PE X a (tP X.K X.mg W q)) : PE X (.Subscript e (.Slice none (some a) none p2) pos) (tE X.K X.mg W (ap (gSl false true) [p, q])) := pe_imp (pe_slice sl_any h po_none (po_some ha)) fun σ H Q h =>
  ap2_run (r := fun x y H Q => ∃ i, y = .int i ∧ rSlO X.K x none (some i) H Q) (fun B H x y a b o hx hr hr2 hg Q q => by
    cases b with
    | int i => cases hr2; exact ⟨i, rfl, slD_run hx hr hg q⟩
    | _ => cases hg) Q h
theorem eI_fact {K : PySem.W.Frag} {mg : Str → Option Value} {W : WX} {σ : St} {H : Hp} {f : M O} {Q : VK} (h : tE K mg W (eI f) σ H Q) : tE K mg W (eI f) σ H fun y H' => (∃ i, y = .int i) ∧ Q y H' := by
  obtain ⟨B, e, S, r, h⟩ := h
  unfold eI at h ⊢
  refine ⟨B, e, S, r, ?_⟩
  have h1 := h.bind
  show Post (M.bind f _ e) _ _
  unfold M.bind
  cases q : f e with
  | none => rw [q] at h1; exact h1
  | some ro =>
    rw [q] at h1
    cases ro with
    | ex x e' => exact h1
    | ok o e' =>
      cases o with
      | lst _ => exact h1.elim
      | dct _ _ => exact h1.elim
      | ins _ _ _ => exact h1.elim
      | exn _ _ _ => exact h1.elim
      | tr _ => exact h1.elim
      | fr d =>
        cases d with
        | int i => exact fun v B' H' S' T vl f => ⟨by have := vl.ro.1; cases this; exact ⟨i, rfl⟩, (show ∀ v B' H' S' T, Vl K B' H' σ e' S' v (.fr (.int i)) T → Fr B H (tot S) B' H' (fun a => T a ∨ tot S' a) → Q v H' from h1) v B' H' S' T vl f⟩
        | _ => exact h1.elim
theorem tP_mono {K : PySem.W.Frag} {mg : Str → Option Value} {W : WX} (p : P) (σ : St) (H : Hp) (Q Q' : VK) (hq : ∀ v H, Q v H → Q' v H) (t : tP K mg W p σ H Q) : tP K mg W p σ H Q' := by
  cases p with
  | b i => obtain ⟨v, e, q⟩ := t; exact ⟨v, e, hq _ _ q⟩
  | v f => obtain ⟨B, e, S, r, t⟩ := t; exact ⟨B, e, S, r, t.imp (fun o e' h v B' H' S' T vl f => hq _ _ (h v B' H' S' T vl f)) fun _ _ z => z⟩
theorem d_I {f : M O} (h : PE X e (tE X.K X.mg W f)) : PE X e (tE X.K X.mg W (eI f)) := pe_imp h fun σ H Q h => by
  obtain ⟨B, e, S, r, h⟩ := h
  refine ⟨B, e, S, r, h.bind.imp (fun o e' h => ?_) fun _ _ z => z⟩
  cases o with
  | lst _ => exact h.elim
  | dct _ _ => exact h.elim
  | ins _ _ _ => exact h.elim
  | exn _ _ _ => exact h.elim
  | tr _ => exact h.elim
  | fr d => cases d with
    | int i => exact h
    | _ => exact h.elim
theorem d_sl11 {f g : M O} (h : PE X e (tP X.K X.mg W p)) (ha : PE X a (tE X.K X.mg W f)) (hb : PE X b (tE X.K X.mg W g)) : PE X (.Subscript e (.Slice (some a) (some b) none p2) pos) (tE X.K X.mg W (ap (gSl true true) [p, .v (eI f), .v (eI g)])) := pe_imp (pe_slice sl_any h (po_some (d_I ha)) (po_some (d_I hb))) fun σ H Q h => by
  have key : tP X.K X.mg W p σ H fun x H1 => tE X.K X.mg W (eI f) σ H1 fun y H2 => tE X.K X.mg W (eI g) σ H2 fun z H3 => ∀ x' y' z', [x, y, z] = [x', y', z'] → ∀ i j, y' = .int i → z' = .int j → rSlO X.K x' (some i) (some j) H3 Q :=
    apN_run (r := fun vs H Q => ∀ x y z, vs = [x, y, z] → ∀ i j, y = .int i → z = .int j → rSlO X.K x (some i) (some j) H Q) (fun B H vs ds o hx hr hg Q q x y z ev i j ei ej => by
    subst ev
    subst ei
    subst ej
    cases hr with
    | cons h1 hr => cases hr with
      | cons h2 hr => cases hr with
        | cons h3 hr =>
          cases hr
          rename_i d1 d2 d3
          have e2 : d2 = .int i := by cases d2 <;> first | (cases h2; done) | (rcases h2 with ⟨_, _, _, _, z, _⟩; exact V.noConfusion z) | (obtain ⟨_, _, z, _⟩ := h2; cases z; done) | (cases h2; rfl) | (have z : (none : Option O) = some o := hg; cases z)
          subst e2
          have e3 : d3 = .int j := by cases d3 <;> first | (cases h3; done) | (rcases h3 with ⟨_, _, _, _, z, _⟩; exact V.noConfusion z) | (obtain ⟨_, _, z, _⟩ := h3; cases z; done) | (cases h3; rfl) | (have z : (none : Option O) = some o := hg; cases z)
          subst e3
          exact slD_run hx h1 hg q) Q h
  refine tP_mono _ _ _ _ _ (fun x H1 t => ?_) key
  refine tP_mono (.v (eI f)) _ _ _ _ (fun y H2 t => ?_) (eI_fact t)
  obtain ⟨⟨i, rfl⟩, t⟩ := t
  refine ⟨i, rfl, tP_mono (.v (eI g)) _ _ _ _ (fun z H3 t => ?_) (eI_fact t)⟩
  obtain ⟨⟨j, rfl⟩, t⟩ := t
  exact ⟨j, rfl, t _ _ _ rfl i j rfl rfl⟩
theorem d_rev {k : Nat} {p1 p3 : Pos} (h : PE X e (tP X.K X.mg W p)) : PE X (.Subscript e (.Slice none none (some (.UnaryOp .USub (.Constant (.int 1) k p1) p2)) p3) pos) (tE X.K X.mg W (ap gRevS [p])) := pe_imp (pe_revL h) fun σ H Q h =>
  ap1_run (r := fun x H Q => ∃ a xs, x = .ref a ∧ SqL X.K H a xs ∧ ∀ p, H p = none → Q (.ref p) (upd H p (.lst xs.reverse))) (fun B H x a o hx hr hg Q q => by
    cases a with
    | lst ds =>
      cases hg
      obtain ⟨a, xs, rfl, h1, h2⟩ := hr
      exact ⟨_, _, rfl, Evl.sq_of h1, fun p hp => q.newL hx h2.reverse hp⟩
    | _ => cases hg) Q h
end
end Dn

namespace Dn
open PySem L2
open Evl (Ex)

/-! ## 19. A list of one's own, changed in place -/
def eMut1 (g : List D → D → Option (D × List D)) (i : Nat) (f : M O) : M O := fun e => match e[i]? with
  | some (some (.lst _)) => (f.bind fun o e' => match e'[i]? with
    | some (some (.lst ds)) => (match g ds o.d with
      | some (r, ds') => some (.ok (.fr r) (e'.set i (some (.lst ds'))))
      | none => none)
    | _ => none) e
  | _ => none
def eMut0 (g : List D → Option (D × List D)) (i : Nat) : M O := fun e => match e[i]? with
  | some (some (.lst ds)) => (match g ds with
    | some (r, ds') => some (.ok (.fr r) (e.set i (some (.lst ds'))))
    | none => none)
  | _ => none
def gApp (ds : List D) (d : D) : Option (D × List D) := if ds.length < sizeLine then some (.non, ds ++ [d]) else none
def gPop0 (ds : List D) (d : D) : Option (D × List D) := match d with
  | .int i => if -(2 ^ 63) ≤ i ∧ i < 2 ^ 63 then (ixN ds.length i).bind fun k => (ds[k]?).map fun y => (y, ds.eraseIdx k) else none
  | _ => none
def gPop (ds : List D) : Option (D × List D) := (ds[ds.length - 1]?).map fun y => (y, ds.dropLast)
def gExt (ds : List D) (d : D) : Option (D × List D) := match d with
  | .lst es => if ds.length + es.length ≤ sizeLine then some (.non, ds ++ es) else none
  | _ => none
def gRev (ds : List D) : Option (D × List D) := some (.non, ds.reverse)
def sSetIx (i : Nat) (fk fv : M O) : M Fl := fv.bind fun o e1 => match e1[i]? with
  | some (some (.lst _)) => (fk.bind fun k e => match e[i]? with
    | some (some (.lst ds)) => (match k with
      | .fr (.int j) => (match ixN ds.length j with
        | some n => some (.ok .next (e.set i (some (.lst (ds.set n o.d)))))
        | none => none)
      | _ => none)
    | _ => none) e1
  | _ => none

section
variable {K : PySem.W.Frag} {mg : Str → Option Value} {W : WX} {B B' H H' : Hp} {v : V} {o : O} {σ σ' : St} {e e' : Sl} {S S' : Nat → Addr → Prop} {T T' : Addr → Prop}
theorem Rp.mut (r : Rp K B H σ e S) {i : Nat} {l : Addr} {xs xs' : List V} {ds ds' : List D} (he : e[i]? = some (some (.lst ds))) (hσ : σ[i]? = some (some (.ref l))) (hl : H l = some (.lst xs)) (hr : RepL K B xs' ds') :
    Rp K B (L2.upd H l (.lst xs')) σ (e.set i (some (.lst ds'))) S ∧ Fr B H (tot S) B (L2.upd H l (.lst xs')) (tot S) := by
  obtain ⟨v, hv, p, ys, e1, h2, h3, h4⟩ := r.rep i _ he
  rw [hσ] at hv; cases hv
  cases e1
  have hS : S i l := (h4 l).mpr rfl
  have hb := (r.own i l hS).1
  have hlen : i < e.length := (List.getElem?_eq_some_iff.mp he).1
  refine ⟨⟨by rw [List.length_set]; exact r.len, fun a o ha => ?_, fun j o ho => ?_, r.dis, fun j a ha => ⟨(r.own j a ha).1, ?_⟩⟩, Fr.upd hl ⟨i, hS⟩⟩
  · rw [upd_ne (fun z => by subst z; rw [hb] at ha; cases ha)]; exact r.ex a o ha
  · by_cases hj : j = i
    · subst hj
      rw [List.getElem?_set_self hlen] at ho
      cases ho
      exact ⟨_, hσ, l, xs', rfl, upd_same, hr, h4⟩
    · rw [List.getElem?_set_ne (Ne.symm hj)] at ho
      obtain ⟨v, a1, a2⟩ := r.rep j o ho
      refine ⟨v, a1, ?_⟩
      cases o with
      | fr d => exact a2
      | lst es =>
        obtain ⟨q, zs, b1, b2, b3, b4⟩ := a2
        refine ⟨q, zs, b1, ?_, b3, b4⟩
        rw [upd_ne (fun z => by subst z; exact hj (r.dis j i q ((b4 q).mpr rfl) hS))]
        exact b2
      | dct es =>
        obtain ⟨q, zs, b1, b2, bk, b3, b4⟩ := a2
        refine ⟨q, zs, b1, ?_, bk, b3, b4⟩
        rw [upd_ne (fun z => by subst z; exact hj (r.dis j i q ((b4 q).mpr rfl) hS))]
        exact b2
      | ins c ns es =>
        obtain ⟨q, C, dx, zs, b1, b2, bc, bk, b3, b4⟩ := a2
        refine ⟨q, C, dx, zs, b1, ?_, bc, bk, b3, b4⟩
        rw [upd_ne (fun z => by subst z; exact hj (r.dis j i q ((b4 q).mpr rfl) hS))]
        exact b2
      | exn a d x => exact a2
      | tr t => exact RepT.frame (Ex.refl B) a2 fun a o z q => by rw [upd_ne (show a ≠ l from fun y => hj (r.dis j i a z (by rw [y]; exact hS)))]; exact q
  · by_cases hp : a = l
    · exact ⟨_, by rw [hp]; exact upd_same⟩
    · obtain ⟨_, o, h⟩ := r.own j a ha
      exact ⟨o, by rw [upd_ne hp]; exact h⟩
def Mu1 (K : PySem.W.Frag) (r : V → List V → Hp → VK → Prop) (g : List D → D → Option (D × List D)) : Prop := ∀ (B H : Hp) (l : Addr) (xs : List V) (ds : List D) (y : V) (d res : D) (ds' : List D), Ex B H → H l = some (.lst xs) → RepL K B xs ds → Rep K B y d → g ds d = some (res, ds') →
  ∀ Q : VK, (∀ rv xs', RepL K B xs' ds' → Rep K B rv res → Q rv (L2.upd H l (.lst xs'))) → r (.ref l) [y] H Q
def Mu0 (K : PySem.W.Frag) (r : V → List V → Hp → VK → Prop) (g : List D → Option (D × List D)) : Prop := ∀ (B H : Hp) (l : Addr) (xs : List V) (ds : List D) (res : D) (ds' : List D), Ex B H → H l = some (.lst xs) → RepL K B xs ds → g ds = some (res, ds') →
  ∀ Q : VK, (∀ rv xs', RepL K B xs' ds' → Rep K B rv res → Q rv (L2.upd H l (.lst xs'))) → r (.ref l) [] H Q
theorem fz_fr {S1 : Nat → Addr → Prop} {B1 H1 B2 : Hp} (f1 : Fr B H (tot S) B1 H1 (fun a => T a ∨ tot S1 a)) (f2 : Fr B1 H1 T B2 H1 noS) : Fr B H (tot S) B2 H1 (tot S1) :=
  f1.trans ⟨f2.b, fun a o q _ => q, fun a z => .inl (.inr z), fun a u q => (f2.c a u q).elim .inl fun z => .inr (z.elim (fun z => .inl (.inl z)) .inr), fun a o q => ⟨o, q⟩⟩
theorem mut1_run {r : V → List V → Hp → VK → Prop} {g : List D → D → Option (D × List D)} {i : Nat} {f : M O} {Q : VK} (hs : Mu1 K r g) (h : tE K mg W (eMut1 g i f) σ H Q) :
    tVar i σ H fun x H1 => tyV K "list" x H1 ∧ tCons (tE K mg W f) tNil σ H1 fun vs H2 => r x vs H2 Q := by
  obtain ⟨B, e, S, rp, h⟩ := h
  unfold eMut1 at h
  cases q : e[i]? with
  | none => rw [q] at h; exact h.elim
  | some u =>
    cases u with
    | none => rw [q] at h; exact h.elim
    | some o =>
      rw [q] at h
      cases o with
      | fr d => exact h.elim
      | dct _ _ => exact h.elim
      | ins _ _ _ => exact h.elim
      | exn _ _ _ => exact h.elim
      | tr _ => exact h.elim
      | lst ds =>
        obtain ⟨v, hv, p, ys, e1, h2, h3, h4⟩ := rp.rep i _ q
        subst e1
        refine ⟨_, hv, .inl ⟨rfl, _, Evl.sq_of h2⟩, B, e, S, rp, (show Post (M.bind f _ e) _ _ from h).bind.imp (fun o e1 h v1 B1 H1 S1 T vl f1 => ?_) fun _ _ z => z⟩
        obtain ⟨B2, vl2, f2⟩ := vl.freeze
        have f3 := fz_fr f1 f2
        show r (.ref p) [v1] H1 Q
        cases q1 : e1[i]? with
        | none => rw [q1] at h; exact h.elim
        | some u1 =>
          cases u1 with
          | none => rw [q1] at h; exact h.elim
          | some o1 =>
            rw [q1] at h
            cases o1 with
            | fr d => exact h.elim
            | dct _ _ => exact h.elim
            | ins _ _ _ => exact h.elim
            | exn _ _ _ => exact h.elim
            | tr _ => exact h.elim
            | lst ds1 =>
              dsimp only at h
              cases qg : g ds1 o.d with
              | none => rw [qg] at h; exact h.elim
              | some rr =>
                obtain ⟨res, ds'⟩ := rr
                rw [qg] at h
                obtain ⟨v', hv', p', ys', e1', k2, k3, k4⟩ := vl2.rp.rep i _ q1
                rw [hv] at hv'; cases hv'
                cases e1'
                refine hs B2 H1 p ys' ds1 v1 _ res ds' vl2.rp.ex k2 k3 vl2.ro.1 qg Q fun rv xs' hx hrv => ?_
                obtain ⟨r4, f4⟩ := vl2.rp.mut q1 hv k2 hx
                exact (show ∀ v B' H' S' T, Vl K B' H' σ _ S' v (.fr res) T → Fr B H (tot S) B' H' (fun a => T a ∨ tot S' a) → Q v H' from h) rv B2 _ S1 noS (.fr r4 hrv) ((f3.trans f4).imp (fun _ z => z) fun a z => z.elim (fun z => z.elim) id)
theorem mut0_run {r : V → List V → Hp → VK → Prop} {g : List D → Option (D × List D)} {i : Nat} {Q : VK} (hs : Mu0 K r g) (h : tE K mg W (eMut0 g i) σ H Q) :
    tVar i σ H fun x H1 => tyV K "list" x H1 ∧ r x [] H1 Q := by
  obtain ⟨B, e, S, rp, h⟩ := h
  unfold eMut0 at h
  cases q : e[i]? with
  | none => rw [q] at h; exact h.elim
  | some u =>
    cases u with
    | none => rw [q] at h; exact h.elim
    | some o =>
      rw [q] at h
      cases o with
      | fr d => exact h.elim
      | dct _ _ => exact h.elim
      | ins _ _ _ => exact h.elim
      | exn _ _ _ => exact h.elim
      | tr _ => exact h.elim
      | lst ds =>
        obtain ⟨v, hv, p, ys, e1, h2, h3, h4⟩ := rp.rep i _ q
        subst e1
        refine ⟨_, hv, .inl ⟨rfl, _, Evl.sq_of h2⟩, ?_⟩
        dsimp only at h
        cases qg : g ds with
        | none => rw [qg] at h; exact h.elim
        | some rr =>
          obtain ⟨res, ds'⟩ := rr
          rw [qg] at h
          refine hs B H p ys ds res ds' rp.ex h2 h3 qg Q fun rv xs' hx hrv => ?_
          obtain ⟨r4, f4⟩ := rp.mut q hv h2 hx
          exact (show ∀ v B' H' S' T, Vl K B' H' σ _ S' v (.fr res) T → Fr B H (tot S) B' H' (fun a => T a ∨ tot S' a) → Q v H' from h) rv B _ S noS (.fr r4 hrv) (f4.imp (fun _ z => z) fun a z => z.elim (fun z => z.elim) id)
theorem u_app : Mu1 K rAppend gApp := fun B H l xs ds y d res ds' hx hl hr hy hg Q q => by
  unfold gApp at hg
  split at hg
  · rename_i hz
    cases hg
    exact ⟨l, xs, y, rfl, rfl, hl, by rw [hr.length]; exact hz, q .non _ (hr.append (.one hy)) .non⟩
  · cases hg
theorem u_pop0 : Mu1 K rPopAt gPop0 := fun B H l xs ds y d res ds' hx hl hr hy hg Q q => by
  unfold gPop0 at hg
  split at hg
  · rename_i i
    split at hg
    · rename_i hz
      obtain ⟨k, hk, hg⟩ := Option.bind_eq_some_iff.mp hg
      obtain ⟨z, hz2, e2⟩ := Option.map_eq_some_iff.mp hg
      cases e2; cases hy
      obtain ⟨v, hv, rv⟩ := hr.get hz2
      exact ⟨l, xs, i, k, v, rfl, rfl, hl, hz.1, hz.2, by rw [hr.length]; exact (ixN_seq hk).1, hv, q v _ (hr.erase k) rv⟩
    · cases hg
  · cases hg
theorem RepL.dropLast {xs : List V} {ds : List D} (h : RepL K B xs ds) : RepL K B xs.dropLast ds.dropLast := by
  rw [List.dropLast_eq_take, List.dropLast_eq_take, h.length]
  exact h.take _
theorem u_pop : Mu0 K rPop gPop := fun B H l xs ds res ds' hx hl hr hg Q q => by
  obtain ⟨z, hz2, e2⟩ := Option.map_eq_some_iff.mp hg
  cases e2
  obtain ⟨v, hv, rv⟩ := hr.get hz2
  exact ⟨l, xs, v, rfl, rfl, hl, by rw [hr.length]; exact hv, q v _ hr.dropLast rv⟩
theorem u_rev : Mu0 K rReverse gRev := fun B H l xs ds res ds' hx hl hr hg Q q => by
  cases hg
  exact ⟨l, xs, rfl, rfl, hl, q .non _ hr.reverse .non⟩
theorem u_ext : Mu1 K rExtend gExt := fun B H l xs ds y d res ds' hx hl hr hy hg Q q => by
  unfold gExt at hg
  split at hg
  · split at hg
    · rename_i hz
      cases hg
      cases hy with
      | lst h1 h2 => exact ⟨l, _, xs, _, rfl, rfl, hl, hx _ _ h1, by rw [hr.length, h2.length]; exact hz, q .non _ (hr.append h2) .non⟩
    · cases hg
  · cases hg
end
section
variable {X : Cx} {W : WX} {e k : Expr} {f g : M O} {i : Nat} {x name : Str} {id : String} {p apos pos : Pos} {r : V → List V → Hp → VK → Prop}
theorem d_mut1 {G : List D → D → Option (D × List D)} (hv : PE X (.Name x p) (tVar i)) (slot : Slot "list" name id) (hty : typeOf (.builtin id) = pure (.type "method_descriptor")) (hm : MtR X id r) (hs : Mu1 X.K r G) (he : PE X e (tE X.K X.mg W f))
    (hbase : attributeBase (.Name x p) name X.env (eval (.Name x p) X.env) = eval (.Name x p) X.env := by rfl)
    (hfew : ((backTo pos (starEach (e :: []) X.env)).all (fun x => !x.1) && (backToKw pos (keywordEach [] X.env)).all (fun x => x.1.isSome)
      && decide ((e :: []).length + ([] : List Keyword).length + (if ([] : List Keyword).isEmpty then 0 else 1) < 30)) = true := by rfl)
    (hline : (apos.endLine == pos.line) = true := by rfl) (hst : starEach (e :: []) X.env = (false, eval e X.env) :: starEach [] X.env := by rfl) (hpl : (backTo pos (starEach [] X.env)).any (·.1) = false := by rfl) :
    PE X (.Call (.Attribute (.Name x p) name apos) [e] [] pos) (tE X.K X.mg W (eMut1 G i f)) := pe_imp (pe_bm PySem.F.plainAttrs_list slot hty hm hv (pa_cons he pa_nil hst) hbase hfew hline hst hpl) fun σ H Q h => mut1_run hs h
theorem d_mut0 {G : List D → Option (D × List D)} (hv : PE X (.Name x p) (tVar i)) (slot : Slot "list" name id) (hty : typeOf (.builtin id) = pure (.type "method_descriptor")) (hm : MtR X id r) (hs : Mu0 X.K r G)
    (hbase : attributeBase (.Name x p) name X.env (eval (.Name x p) X.env) = eval (.Name x p) X.env := by rfl) (hline : (apos.endLine == pos.line) = true := by rfl) :
    PE X (.Call (.Attribute (.Name x p) name apos) [] [] pos) (tE X.K X.mg W (eMut0 G i)) := pe_imp (pe_bm0 PySem.F.plainAttrs_list slot hty hm hv hbase hline) fun σ H Q h => mut0_run hs h
theorem s_setIx {ks : List Nat} {p2 : Pos} (hv : PE X (.Name x p) (tVar i)) (hk : PE X k (tE X.K X.mg W f)) (he : PE X e (tE X.K X.mg W g))
    (ha : ∀ v, assign (.Subscript (.Name x p) k p2) X.env v = (do
      let ov ← holding [v] (eval (.Name x p) X.env)
      let iv ← holding [v, ov] (eval k X.env)
      standAt p2
      holding [v, ov, iv] (setItem ov iv v)
      release [v, ov, iv] []) := by intro _; rfl)
    (hs : swapsWithSole [.Subscript (.Name x p) k p2] e pos.line X.env = pure false := by rfl) (hw : swappedStores [.Subscript (.Name x p) k p2] e X.env = pure none := by rfl)
    (h1 : (assignEach [.Subscript (.Name x p) k p2] X.env).map (·.2) = [assign (.Subscript (.Name x p) k p2) X.env] := by rfl) :
    PS X (.Assign [.Subscript (.Name x p) k p2] e pos) (tS X.K X.mg W ks (sSetIx i f g)) := ps_imp (ps_asg he (pg_sub hv hk set_list ha) hs hw h1) fun D σ H h => by
  obtain ⟨B, e, S, r, h⟩ := h
  refine ⟨B, e, S, r, h.bind.imp (fun o e1 h v1 B1 H1 S1 T vl f1 => ?_) fun _ _ z => ExS.toE z⟩
  obtain ⟨B2, vl2, f2⟩ := vl.freeze
  have f3 := fz_fr f1 f2
  cases q : e1[i]? with
  | none => rw [q] at h; exact h.elim
  | some u =>
    cases u with
    | none => rw [q] at h; exact h.elim
    | some o1 =>
      rw [q] at h
      cases o1 with
      | fr d => exact h.elim
      | dct _ _ => exact h.elim
      | ins _ _ _ => exact h.elim
      | exn _ _ _ => exact h.elim
      | tr _ => exact h.elim
      | lst ds0 =>
        obtain ⟨v, hv, l, ys, ev, _, _, _⟩ := vl2.rp.rep i _ q
        subst ev
        refine ⟨_, hv, B2, e1, S1, vl2.rp, (show Post (M.bind f _ e1) _ _ from h).bind.imp (fun ko e2 h v2 B3 H3 S3 T3 vl3 f4 => ?_) fun x e2 z => ExS.toE (ExS.step z (Kp.refl _ _) f3)⟩
        cases q1 : e2[i]? with
        | none => rw [q1] at h; exact h.elim
        | some u1 =>
          cases u1 with
          | none => rw [q1] at h; exact h.elim
          | some o1 =>
            rw [q1] at h
            cases o1 with
            | fr d => exact h.elim
            | dct _ _ => exact h.elim
            | ins _ _ _ => exact h.elim
            | exn _ _ _ => exact h.elim
            | tr _ => exact h.elim
            | lst ds1 =>
              dsimp only at h
              split at h
              · rename_i j
                split at h
                · rename_i n hn
                  obtain ⟨v', hv', p', ys', e1', k2, k3, k4⟩ := vl3.rp.rep i _ q1
                  rw [hv] at hv'; cases hv'
                  cases e1'
                  have hj := vl3.ro.1
                  cases hj
                  obtain ⟨r5, f5⟩ := vl3.rp.mut q1 hv k2 (k3.set n (vl2.ro.1.mono f4.b))
                  exact ⟨_, ys', j, n, rfl, rfl, k2, by rw [k3.length]; exact hn, (show Nd X.K D ks B H S σ .next _ from h) σ B3 _ S3 r5 (Kp.refl _ _) ((f3.trans f4.weak).trans f5)⟩
                · exact h.elim
              · exact h.elim
end

/-! ## 20. The law -/
def spLaw (K : PySem.W.Frag) : Sp := fun vs H Q _ => ∃ (a : Addr) (ns : List Int), vs = [.ref a] ∧ SqL K H a (ns.map V.int) ∧ ns.length ≤ 63 ∧ ∀ H', Q (.bl true) H'
theorem law_sp {P : Program} {w : World} {K : PySem.W.Frag} {mg : Str → Option Value} {base : Heap} {CX : CXT} {k : Nat} {f : Addr} {fd : FuncData} {ps : List Str} {F : Fn} (h : FnOk P w K mg base CX k f fd ps (spD K mg 1 F))
    (hF : ∀ ns : List Int, ns.length ≤ 63 → ∃ os, F [.fr (.scr ns)] = some (.ok (bO true) os)) : FnOk P w K mg base CX k f fd ps (spLaw K) := h.imp fun vs H Q E ⟨a, ns, ev, hs, hl, q⟩ => by
  subst ev
  obtain ⟨os, e⟩ := hF ns hl
  refine ⟨rfl, H, [.fr (.scr ns)], fun _ => noS, ⟨rfl, Ex.refl H, fun i o ho => ?_, fun _ _ _ z => z.elim, fun _ _ z => z.elim⟩, ?_⟩
  · cases i with
    | zero =>
      have ho' : some (some (O.fr (D.scr ns))) = some (some o) := ho
      cases ho'
      exact ⟨_, rfl, .scr hs, fun _ z => z⟩
    | succ i => simp at ho
  · rw [e]
    intro v B' H' S' T _ vl _
    have hr := vl.ro.1
    cases hr
    exact q H'
theorem law_cx {P : Program} {w : World} (H : Hp) (s : Shared) (e : Value) (s' : Shared) (h : L2N.CX P w [] H s (fun _ _ _ => False) e s') : False := by
  obtain ⟨_, _, _, _, _, _, _, _, _, _, _, _, z⟩ := h
  exact z
end Dn

namespace Dn
open PySem L2
open Evl (Ex)

/-! ## 21. Further forms -/
theorem _root_.L2.Room.units5 {k : Nat} {A : Around} (r : Room k A) : A.units + 65 < cLine := by have := r.un; omega
section
variable {X : Cx} {W : WX}
theorem d_g {x : Str} {pos : Pos} {v : V} {d : D} (hg : Gl X x) (h : ∃ u, X.mg x = some u ∧ RelV v u) (hr : ∀ B, Rep X.K B v d) (hdb : (x == ("__debug__" : Str)) = false := by decide) : PE X (.Name x pos) (tE X.K X.mg W (eC d)) := by
  obtain ⟨u, h1, h2⟩ := h
  exact d_c (pe_glob hg h1 h2 hdb) hr
theorem d_call0 {x : Str} {p pos : Pos} {k j n : Nat} {F : Fn} {dv : List D} (C : Cl X.prog X.w X.K X.mg X.base k x n F dv) (hr : Room j X.A) (tk : L2N.Takes X W) (hk : k ≤ j := by decide) (hg : Gl X x := by rfl) (hn : n = ([] : List P).length + dv.length := by rfl)
    (hdb : (x == ("__debug__" : Str)) = false := by decide) : PE X (.Call (.Name x p) [] [] pos) (tE X.K X.mg W (eCall F [] dv)) := by
  obtain ⟨f, fd, pn, ds, dvs, h0, h1, h2, h3, h4, h5, h6⟩ := C.ex
  have hl : dvs.length = dv.length := (h6 fun _ => none).length
  refine ⟨fun pins s σ H Q I h => ?_⟩
  refine wpAny_Call_Name_kw (ld_glob I hg h2 ?_ hdb)
  exact PySem.W.callWith_K0 I.kIn h3 (run_fnSD (us := []) (E := WE W) h1 (hr.mono hk) h4 h5 (L2N.passAt tk σ) I .nil (call_core (W := W) hl (h0.trans hn) (by decide) h6 h))
end
theorem cl_mk {P : Program} {w : World} {K : PySem.W.Frag} {mg : Str → Option Value} {base : Heap} {k n : Nat} {x : Str} {F : Fn} {f : Addr} {fd : FuncData} {ps : List Str} (h : FnOk P w K mg base (L2N.CX P w) k f fd ps (spD K mg n F)) (hm : mg x = some (.ref f)) (hk : PySem.W.keepIn K (.ref f) = true) (hb : Binds K fd ps []) (hn : ps.length = n := by rfl) : Cl P w K mg base k x n F [] :=
  ⟨f, fd, ps, [], [], hn, by rw [hn]; exact h, hm, hk, hb, .nil, fun _ => .nil⟩

/-! ### a op1 b op2 c -/
def eChain (g g2 : List D → Option O) (fa fb fc : M O) : M O := fa.bind fun oa => fb.bind fun ob e => match g [oa.d, ob.d] with
  | some (.fr (.bl true)) => (fc.bind fun oc e => (g2 [ob.d, oc.d]).map fun o => .ok o e) e
  | some (.fr (.bl false)) => some (.ok (bO false) e)
  | _ => none
section
variable {K : PySem.W.Frag} {mg : Str → Option Value} {W : WX} {σ : St} {H : Hp}
theorem chain_run {r r2 : R2} {g g2 : List D → Option O} {fa fb fc : M O} {Q : VK} (hs : Snd2 K r g) (hs2 : Snd2 K r2 g2) (h : tE K mg W (eChain g g2 fa fb fc) σ H Q) : tChain r r2 (tE K mg W fa) (tE K mg W fb) (tE K mg W fc) σ H Q := by
  obtain ⟨B, e, S, rp, h⟩ := h
  refine ⟨B, e, S, rp, h.bind.imp (fun oa e1 h va B1 H1 S1 T1 vl1 f1 => ?_) fun _ _ z => z⟩
  have f1' := f1.weak (S' := S1)
  refine ⟨B1, e1, S1, vl1.rp, h.bind.imp (fun ob e2 h vb B2 H2 S2 T2 vl2 f2 => ?_) fun _ _ z => z.step f1'⟩
  have f2' := f2.weak (S' := S2)
  have f12 := f1'.trans f2'
  obtain ⟨ro1, _, _⟩ := vl1.ro.frame vl1.own vl1.dj f2
  have go : ∀ o, g [oa.d, ob.d] = some o → Post (match some o with
      | some (.fr (.bl true)) => (fc.bind fun oc e => (g2 [ob.d, oc.d]).map fun o => .ok o e) e2
      | some (.fr (.bl false)) => some (.ok (bO false) e2)
      | _ => none) (fun o e' => ∀ v B' H' S' T, Vl K B' H' σ e' S' v o T → Fr B H (tot S) B' H' (fun a => T a ∨ tot S' a) → Q v H') (fun x e' => ExE K mg W B H S σ x e') →
      r va vb H2 fun z H3 => ∃ k, z = .bl k ∧ (if k = true then tE K mg W fc σ H3 fun w' H4 => r2 vb w' H4 Q else Q (.bl false) H3) := fun o ho h => by
    refine hs B2 H2 va vb _ _ o vl2.rp.ex (ro1.rd vl2.rp.ex) (vl2.ro.rd vl2.rp.ex) ho _ fun v B3 H3 T gr ro hn ow => ?_
    cases o with
    | lst _ => exact h.elim
    | dct _ _ => exact h.elim
    | ins _ _ _ => exact h.elim
    | exn _ _ _ => exact h.elim
    | tr _ => exact h.elim
    | fr d =>
      cases d with
      | bl b =>
        have rv := ro.1
        cases rv
        have r3 := vl2.rp.grow gr
        have f3 : Fr B H (tot S) B3 H3 (tot S2) := f12.trans (gr.fr _)
        cases b with
        | false => exact ⟨false, rfl, iteF ((show ∀ v B' H' S' T, Vl K B' H' σ e2 S' v (bO false) T → Fr B H (tot S) B' H' (fun a => T a ∨ tot S' a) → Q v H' from h) _ B3 H3 S2 noS (.fr r3 (.bl _)) (f3.imp (fun _ z => z) fun a z => z.elim (fun z => z.elim) id))⟩
        | true =>
          refine ⟨true, rfl, iteT ⟨B3, e2, S2, r3, (show Post (M.bind fc _ e2) _ _ from h).bind.imp (fun oc e3 h vc B4 H4 S4 T4 vl4 f4 => ?_) fun _ _ z => z.step f3⟩⟩
          obtain ⟨o2, ho2, h⟩ := ap_end h
          obtain ⟨ro2, _, _⟩ := ((vl2.ro.grow gr)).frame (vl2.own.grow gr) vl2.dj f4
          exact hs2 B4 H4 vb vc _ _ o2 vl4.rp.ex (ro2.rd vl4.rp.ex) (vl4.ro.rd vl4.rp.ex) ho2 Q (vl4.rp.giv fun v B5 H5 S5 T5 vl5 f5 => h v B5 H5 S5 T5 vl5 ((f3.trans f4.weak).trans f5))
      | _ => exact h.elim
  cases q : g [oa.d, ob.d] with
  | none => simp only [q] at h; exact h.elim
  | some o => simp only [q] at h; exact go o q h
end
section
variable {X : Cx} {W : WX} {a b c e : Expr} {fa fb fc f : M O} {op op2 : CmpOp} {r r2 : R2} {g g2 : List D → Option O} {pos : Pos} {p : P}
theorem d_chain (ho : OpR X (compareOp op) r) (hs : Snd2 X.K r g) (ho2 : OpR X (compareOp op2) r2) (hs2 : Snd2 X.K r2 g2) (ha : PE X a (tE X.K X.mg W fa)) (hb : PE X b (tE X.K X.mg W fb)) (hc : PE X c (tE X.K X.mg W fc))
    (hm : lastMarks [op, op2] [b, c] = false := by with_unfolding_all rfl) : PE X (.Compare a [op, op2] [b, c] pos) (tE X.K X.mg W (eChain g g2 fa fb fc)) := pe_imp (pe_chain ho ho2 ha hb hc hm) fun _ _ _ h => chain_run hs hs2 h
theorem c_chain (ho : OpR X (compareOp op) r) (hs : Snd2 X.K r g) (ho2 : OpR X (compareOp op2) r2) (hs2 : Snd2 X.K r2 g2) (ha : PE X a (tE X.K X.mg W fa)) (hb : PE X b (tE X.K X.mg W fb)) (hc : PE X c (tE X.K X.mg W fc))
    (hm : lastMarks [op, op2] [b, c] = false := by with_unfolding_all rfl) : PT X (.Compare a [op, op2] [b, c] pos) (tT X.K X.mg W (tst (eChain g g2 fa fb fc))) := pt_imp (pt_chain ho ho2 ha hb hc hm) fun σ H Q h => by
  obtain ⟨B, e, S, r, h⟩ := h
  refine chain_run hs hs2 (mg := X.mg) (W := W) ⟨B, e, S, r, h.bind.imp (fun o e' h v B' H' S' T vl f => ?_) fun _ _ z => z⟩
  cases o with
  | lst ds => exact h.elim
  | dct _ _ => exact h.elim
  | ins _ _ _ => exact h.elim
  | exn _ _ _ => exact h.elim
  | tr _ => exact h.elim
  | fr d =>
    cases d with
    | bl b =>
      have hr := vl.ro.1
      cases hr
      exact ⟨b, rfl, h B' H' S' vl.rp (f.imp (fun _ z => z) fun _ z => .inr z)⟩
    | _ => exact h.elim
/-! ### truth -/
def truD : D → Option Bool
  | .non => some false
  | .bl b => some b
  | .int i => some (i != 0)
  | .str z => if z.length ≤ sizeLine then some ((z.length : Int) != 0) else none
  | .lst ds => some (!ds.isEmpty)
  | .tup ds => some (!ds.isEmpty)
  | .scr ns => some (!ns.isEmpty)
  | _ => none
def tru (p : P) : M Bool := (ops [p]).bind fun ds e => match ds with
  | [d] => (truD d).map fun b => .ok b e
  | _ => none
theorem repL_empty {K : PySem.W.Frag} {B : Hp} {xs : List V} {ds : List D} (h : RepL K B xs ds) : (!ds.isEmpty) = !xs.isEmpty := by cases h <;> rfl
theorem c_tru (h : PE X e (tP X.K X.mg W p)) (he : ∀ whole, isTrue e X.env whole = (do let v ← whole; standAt e.pos; holding [v] (truthy v)) := by intro _; rfl) : PT X e (tT X.K X.mg W (tru p)) := pt_imp (pt_truth h he) fun σ H Q h => by
  obtain ⟨B, e, S, rp, h⟩ := h
  have key := ops_run (K := X.K) (mg := X.mg) (W := W) (σ := σ) [p] (fun vs H' => ∀ x, vs = [x] → ∃ k, TruV X.K x H' k ∧ Q k H') rp (h.bind.imp (fun ds e' h vs B' H' S' r' rl f x ev => ?_) fun _ _ z => z)
  · have key' : tP X.K X.mg W p σ H fun x H1 => ∀ x', [x] = [x'] → ∃ k, TruV X.K x' H1 k ∧ Q k H1 := key
    exact tP_mono _ _ _ _ _ (fun x H1 t => t x rfl) key'
  · subst ev
    cases rl with
    | cons h1 rl =>
      cases rl
      rename_i d
      have h0 : Post ((truD d).map fun b => Ro.ok b e') (fun b e' => ∀ B' H' S', Rp X.K B' H' σ e' S' → Fr B H (tot S) B' H' (tot S') → Q b H') (fun x e' => ExE X.K X.mg W B H S σ x e') := h
      cases q : truD d with
      | none => rw [q] at h0; exact h0.elim
      | some b =>
        rw [q] at h0
        have h2 : ∀ B' H' S', Rp X.K B' H' σ e' S' → Fr B H (tot S) B' H' (tot S') → Q b H' := h0
        refine ⟨b, ?_, h2 B' H' S' r' f⟩
        cases d with
        | non => cases h1; cases q; rfl
        | bl b => cases h1; cases q; rfl
        | int b => cases h1; cases q; rfl
        | str z =>
          cases h1
          have q' : (if z.length ≤ sizeLine then some ((z.length : Int) != 0) else none) = some b := q
          by_cases hz : z.length ≤ sizeLine
          · rw [if_pos hz] at q'; cases q'; exact ⟨hz, rfl⟩
          · rw [if_neg hz] at q'; cases q'
        | opq => cases q
        | dct _ _ => cases q
        | ins _ _ _ => cases q
        | lst ds => obtain ⟨a, xs, rfl, k1, k2⟩ := h1; cases q; exact .inl ⟨xs, Evl.sq_of k1, repL_empty k2⟩
        | tup ds => cases h1 with
          | tup k1 k2 => cases q; exact .inr (.inl ⟨_, Evl.ex_t r'.ex k1.sq, repL_empty k2⟩)
        | scr ns => cases h1 with
          | scr k1 => cases q; exact .inl ⟨_, Evl.ex_l r'.ex k1, by cases ns <;> rfl⟩
/-! ### x op= e, a, b = e -/
def sAug (g : List D → Option O) (i : Nat) (f : M O) : M Fl := fun e => match e[i]? with
  | some (some (.fr a)) => (f.bind fun o e' => match g [a, o.d] with
    | some (.fr r) => some (.ok .next (e'.set i (some (.fr r))))
    | _ => none) e
  | _ => none
def gAddI : List D → Option O
  | [.int i, .int j] => some (iO (i + j))
  | _ => none
theorem n_addI {K : PySem.W.Frag} : Snd2 K (ipI fun i j => i + j) gAddI := fun B H x y a b o hx ha hb hg Q q => by
  cases a <;> cases b <;> simp only [gAddI] at hg <;> (try cases hg)
  cases ha; cases hb
  exact ⟨_, _, rfl, rfl, q.fr hx (.int _)⟩
theorem n_subI {K : PySem.W.Frag} : Snd2 K (ipI fun i j => i - j) gSub := fun B H x y a b o hx ha hb hg Q q => by
  cases a <;> cases b <;> simp only [gSub] at hg <;> (try cases hg)
  cases ha; cases hb
  exact ⟨_, _, rfl, rfl, q.fr hx (.int _)⟩
theorem s_aug {ks : List Nat} {i : Nat} {x : Str} {op : Operator} {ti : TIp} {pos' : Pos} (hN : X.N.Nodup) (hi : X.N[i]? = some x) (hx : Loc X.env.scope x) (he : PE X e (tE X.K X.mg W f)) (ho : PIp X op ti) (hs : Snd2 X.K ti g) (hk : i ∉ ks := by decide) (hf : X.fn x = true ∨ X.env.scope.names.lookup x = some .local := by first | exact .inl rfl | exact .inr rfl | assumption) :
    PS X (.AugAssign (.Name x pos') op e pos) (tS X.K X.mg W ks (sAug g i f)) := ps_imp (ps_aug hN hi hx he ho hf) fun D σ H h => by
  obtain ⟨B, e, S, r, h⟩ := h
  unfold sAug at h
  cases q : e[i]? with
  | none => rw [q] at h; exact h.elim
  | some u =>
    cases u with
    | none => rw [q] at h; exact h.elim
    | some o =>
      rw [q] at h
      cases o with
      | lst _ => exact h.elim
      | dct _ _ => exact h.elim
      | ins _ _ _ => exact h.elim
      | exn _ _ _ => exact h.elim
      | tr _ => exact h.elim
      | fr a =>
        obtain ⟨v, hv, ro⟩ := r.rep i _ q
        refine ⟨v, hv, B, e, S, r, (show Post (M.bind f _ e) _ _ from h).bind.imp (fun o e1 h y B1 H1 S1 T vl f1 => ?_) fun _ _ z => ExS.toE z⟩
        have f1' := f1.weak (S' := S1)
        cases qg : g [a, o.d] with
        | none => rw [qg] at h; exact h.elim
        | some res =>
          rw [qg] at h
          cases res with
          | lst _ => exact h.elim
          | dct _ _ => exact h.elim
          | ins _ _ _ => exact h.elim
          | exn _ _ _ => exact h.elim
          | tr _ => exact h.elim
          | fr d =>
            refine hs B1 H1 v y a _ _ vl.rp.ex ((ro.1.mono f1.b).rd vl.rp.ex) (vl.ro.rd vl.rp.ex) qg _ fun z B2 H2 T2 gr roz _ _ => ?_
            have vl2 : Vl X.K B2 H2 σ e1 S1 z (.fr d) noS := .fr (vl.rp.grow gr) roz.1
            exact (show Nd X.K D ks B H S σ .next _ from h) _ B2 H2 _ (vl2.set i) (Kp.set hk) ((f1'.trans (gr.fr _)).imp (fun _ z => z) fun a z => (tot_set z).elim (fun z => z.elim) id)
def sSetT (tg : Tg) (f : M O) : M Fl := f.bind fun o e => (tg.go o.d e).map fun e' => .ok .next e'
theorem s_setT {ks : List Nat} {t : Expr} {tg : Tg} (he : PE X e (tE X.K X.mg W f)) (hg : PG X t (tTg X.K tg)) (hk : ∀ i ∈ tg.ix, i ∉ ks) (hs : swapsWithSole [t] e pos.line X.env = pure false := by rfl) (hw : swappedStores [t] e X.env = pure none := by rfl)
    (h1 : (assignEach [t] X.env).map (·.2) = [assign t X.env] := by rfl) : PS X (.Assign [t] e pos) (tS X.K X.mg W ks (sSetT tg f)) := ps_imp (ps_asg he hg hs hw h1) fun D σ H h => by
  obtain ⟨B, e, S, r, h⟩ := h
  refine ⟨B, e, S, r, h.bind.imp (fun o e1 h v B1 H1 S1 T vl f1 => ?_) fun _ _ z => ExS.toE z⟩
  obtain ⟨B2, vl2, f2⟩ := vl.freeze
  have f3 := fz_fr f1 f2
  cases q : tg.go o.d e1 with
  | none => rw [q] at h; exact h.elim
  | some e2 =>
    rw [q] at h
    exact tg_run (ks := ks) vl2.rp vl2.ro.1 q hk fun σ' S' r' k' t' _ => (show Nd X.K D ks B H S σ .next e2 from h) σ' B2 H1 S' r' k' (f3.imp (fun _ z => z) t')
end
end Dn

namespace Dn
open PySem L2
theorem bt_len : bootBuiltins "len" = some (.builtin "len") := by decide +kernel
theorem bt_int : bootBuiltins "int" = some (.type "int") := by decide +kernel
theorem bt_abs : bootBuiltins "abs" = some (.builtin "abs") := by decide +kernel
theorem bt_ord : bootBuiltins "ord" = some (.builtin "ord") := by decide +kernel
theorem bt_list : bootBuiltins "list" = some (.type "list") := by decide +kernel
theorem bt_tuple : bootBuiltins "tuple" = some (.type "tuple") := by decide +kernel
theorem bt_all : bootBuiltins "all" = some (.builtin "all") := by decide +kernel
theorem bt_any : bootBuiltins "any" = some (.builtin "any") := by decide +kernel
theorem bt_sum : bootBuiltins "sum" = some (.builtin "sum") := by decide +kernel
theorem bt_str : bootBuiltins "str" = some (.type "str") := by decide +kernel
theorem bt_bool : bootBuiltins "bool" = some (.type "bool") := by decide +kernel
theorem bt_isinstance : bootBuiltins "isinstance" = some (.builtin "isinstance") := by decide +kernel
theorem bt_repr : bootBuiltins "repr" = some (.builtin "repr") := by decide +kernel
theorem bt_max : bootBuiltins "max" = some (.builtin "max") := by decide +kernel
theorem bt_min : bootBuiltins "min" = some (.builtin "min") := by decide +kernel
theorem bt_sorted : bootBuiltins "sorted" = some (.builtin "sorted") := by decide +kernel
end Dn

namespace Dn
open PySem L2
open PyProof.Rows (envOfC)
section
variable {P : Program} {w : World} {K : PySem.W.Frag} {mg : Str → Option Value} {base : Heap}
theorem fn_dnX {x qual : Str} {st : Stmt} {f : Addr} {fd : FuncData} {N ps : List Str} {k : Nat} {ks : List Nat} {g : M Fl} (F : FunX K x qual st f fd) (Sc : FnScope N ps (defScope st)) (n m : Nat) (hn : ps.length = n) (hm : N.length = m)
    (hb : ∀ (cdv : Value) (A : Around) (outer : List PySem.Env) (s : Shared) (H : Hp) (E : XK), Room k (A.deeper (envOfC qual (defScope st) s.heap.objs.size f cdv)) →
      L2N.Takes (cxOf (L2N.CX P w) P w K mg base N qual (defScope st) f cdv A outer s H E) (fun cls d _ H => E cls d H) →
      PassesOwn (model P w) (A.deeper (envOfC qual (defScope st) s.heap.objs.size f cdv)) (envOfC qual (defScope st) s.heap.objs.size f cdv) (cxOf (L2N.CX P w) P w K mg base N qual (defScope st) f cdv A outer s H E).xe →
      PSs (cxOf (L2N.CX P w) P w K mg base N qual (defScope st) f cdv A outer s H E) (defBody st) (tS K mg (fun cls d _ H => E cls d H) ks g)) :
    FnOk P w K mg base (L2N.CX P w) (k + 1) f fd ps (spD K mg n (mkF m ks g)) := by
  subst hn
  subst hm
  exact fn_den F Sc hb
theorem fn_dn {x qual : Str} {st : Stmt} {f : Addr} {fd : FuncData} {N ps : List Str} {k : Nat} {ks : List Nat} {g : M Fl} (F : Fun K x qual st f fd) (Sc : FnScope N ps (defScope st)) (n m : Nat) (hn : ps.length = n) (hm : N.length = m)
    (hb : ∀ (cdv : Value) (A : Around) (outer : List PySem.Env) (s : Shared) (H : Hp) (E : XK), Room k (A.deeper (envOfC qual (defScope st) s.heap.objs.size f cdv)) →
      L2N.Takes (cxOf (L2N.CX P w) P w K mg base N qual (defScope st) f cdv A outer s H E) (fun cls d _ H => E cls d H) →
      PassesOwn (model P w) (A.deeper (envOfC qual (defScope st) s.heap.objs.size f cdv)) (envOfC qual (defScope st) s.heap.objs.size f cdv) (cxOf (L2N.CX P w) P w K mg base N qual (defScope st) f cdv A outer s H E).xe →
      PSs (cxOf (L2N.CX P w) P w K mg base N qual (defScope st) f cdv A outer s H E) (defBody st) (tS K mg (fun cls d _ H => E cls d H) ks g)) :
    FnOk P w K mg base (L2N.CX P w) (k + 1) f fd ps (spD K mg n (mkF m ks g)) := by
  exact fn_dnX (fun_x F) Sc n m hn hm hb
end
end Dn

namespace Dn
open PySem L2

/-! ## 22. Reckoning with what is computed -/
theorem sl_val : sizeLine = 16777216 := sizeLine_eq
/-- a for: I between two turns; it may be left by a return (R) or a break (Bk) -/
theorem forL_gen {tg : Tg} {body : M Fl} (I : Nat → Sl → Prop) (R : O → Sl → Prop) (Bk : Sl → Prop) : ∀ (ds : List D) (e : Sl), I 0 e →
    (∀ (i : Nat) (d : D) (e : Sl), ds[i]? = some d → I i e → ∃ e1, tg.go d e = some e1 ∧ ((∃ e2, (body e1 = some (.ok .next e2) ∨ body e1 = some (.ok .cnt e2)) ∧ I (i + 1) e2) ∨ (∃ o e2, body e1 = some (.ok (.ret o) e2) ∧ R o e2) ∨ (∃ e2, body e1 = some (.ok .brk e2) ∧ Bk e2))) →
    (∃ e', forL tg body ds e = some (.ok .next e') ∧ (I ds.length e' ∨ Bk e')) ∨ (∃ o e', forL tg body ds e = some (.ok (.ret o) e') ∧ R o e')
  | [], e, h0, _ => .inl ⟨e, rfl, .inl h0⟩
  | d :: ds, e, h0, hs => by
    obtain ⟨e1, h1, h2⟩ := hs 0 d e rfl h0
    have ih := fun e2 (h : I 1 e2) => forL_gen (fun i => I (i + 1)) R Bk ds e2 h fun i d' e' hd hi => hs (i + 1) d' e' hd hi
    rcases h2 with ⟨e2, hb, hi⟩ | ⟨o, e2, hb, hr⟩ | ⟨e2, hb, hk⟩
    · have q : forL tg body (d :: ds) e = forL tg body ds e2 := by
        rcases hb with hb | hb <;> (simp only [forL, h1, hb])
      rw [q]
      exact ih e2 hi
    · exact .inr ⟨o, e2, by simp only [forL, h1, hb], hr⟩
    · exact .inl ⟨e2, by simp only [forL, h1, hb], .inr hk⟩
/-- a for that goes through -/
theorem forL_all {tg : Tg} {body : M Fl} (I : Nat → Sl → Prop) (ds : List D) (e : Sl) (h0 : I 0 e)
    (hs : ∀ (i : Nat) (d : D) (e : Sl), ds[i]? = some d → I i e → ∃ e1 e2, tg.go d e = some e1 ∧ body e1 = some (.ok .next e2) ∧ I (i + 1) e2) : ∃ e', forL tg body ds e = some (.ok .next e') ∧ I ds.length e' := by
  rcases forL_gen I (fun _ _ => False) (fun _ => False) ds e h0 fun i d e hd hi => by
    obtain ⟨e1, e2, h1, h2, h3⟩ := hs i d e hd hi
    exact ⟨e1, h1, .inl ⟨e2, .inl h2, h3⟩⟩ with ⟨e', h1, h2⟩ | ⟨o, e', h1, h2⟩
  · exact ⟨e', h1, h2.elim id False.elim⟩
  · exact h2.elim
/-- a while, by a measure -/
theorem whL_gen {c : M Bool} {body : M Fl} (I : Nat → Sl → Prop) (Z : Sl → Prop) (R : O → Sl → Prop) (hs : ∀ (m : Nat) (e : Sl), I m e → (∃ e1, c e = some (.ok false e1) ∧ Z e1) ∨ (∃ e1, c e = some (.ok true e1) ∧ ((∃ m' e2, m' < m ∧ (body e1 = some (.ok .next e2) ∨ body e1 = some (.ok .cnt e2)) ∧ I m' e2) ∨ (∃ o e2, body e1 = some (.ok (.ret o) e2) ∧ R o e2) ∨ (∃ e2, body e1 = some (.ok .brk e2) ∧ Z e2)))) :
    ∀ (n m : Nat) (e : Sl), m < n → I m e → (∃ e', whL c body n e = some (.ok .next e') ∧ Z e') ∨ (∃ o e', whL c body n e = some (.ok (.ret o) e') ∧ R o e')
  | 0, _, _, h, _ => absurd h (Nat.not_lt_zero _)
  | n + 1, m, e, hn, hi => by
    rcases hs m e hi with ⟨e1, h1, h2⟩ | ⟨e1, h1, h2⟩
    · exact .inl ⟨e1, by simp [whL, M.bind, h1, M.pure], h2⟩
    · rcases h2 with ⟨m', e2, hm, hb, hi'⟩ | ⟨o, e2, hb, hr⟩ | ⟨e2, hb, hz⟩
      · have q : whL c body (n + 1) e = whL c body n e2 := by
          rcases hb with hb | hb <;> simp [whL, M.bind, h1, hb]
        rw [q]
        exact whL_gen I Z R hs n m' e2 (by omega) hi'
      · exact .inr ⟨o, e2, by simp [whL, M.bind, h1, hb], hr⟩
      · exact .inl ⟨e2, by simp [whL, M.bind, h1, hb], hz⟩
/-- a comprehension without a test: P i d x of each item and what is made of it -/
theorem lcL_gen {own : List Nat} {tg : Tg} {t : M Bool} {f : M O} (I : Nat → Sl → Prop) (Pr : Nat → D → D → Prop) : ∀ (ds acc : List D) (e : Sl), acc.length + ds.length < 10000000 → I 0 e →
    (∀ (i : Nat) (d : D) (e : Sl), ds[i]? = some d → I i e → ∃ e1 e2 o e3, tg.go d e = some e1 ∧ t e1 = some (.ok true e2) ∧ f e2 = some (.ok o e3) ∧ Pr i d o.d ∧ I (i + 1) (wipeE e3 own)) →
    ∃ xs e', lcL own tg t f ds acc e = some (acc ++ xs, e') ∧ xs.length = ds.length ∧ (∀ (i : Nat) (d : D), ds[i]? = some d → ∃ x, xs[i]? = some x ∧ Pr i d x) ∧ I ds.length e'
  | [], acc, e, _, h0, _ => ⟨[], e, by simp [lcL], rfl, fun i d h => by simp at h, h0⟩
  | d :: ds, acc, e, hl, h0, hs => by
    obtain ⟨e1, e2, o, e3, h1, h2, h3, h4, h5⟩ := hs 0 d e rfl h0
    have hz : acc.length < sizeLine := by rw [sizeLine_eq]; rw [List.length_cons] at hl; omega
    obtain ⟨xs, e', q1, q2, q3, q4⟩ := lcL_gen (fun i => I (i + 1)) (fun i => Pr (i + 1)) ds (acc ++ [o.d]) (wipeE e3 own) (by rw [List.length_append]; simp only [List.length_cons, List.length_nil] at *; omega) h5 fun i d' e' hd hi => hs (i + 1) d' e' hd hi
    refine ⟨o.d :: xs, e', ?_, by rw [List.length_cons, List.length_cons, q2], fun i d' h => ?_, q4⟩
    · simp only [lcL, h1, h2, h3, hz, if_true, q1, List.append_assoc, List.singleton_append]
    · cases i with
      | zero =>
        have h' : some d = some d' := h
        cases h'
        exact ⟨_, rfl, h4⟩
      | succ i =>
        obtain ⟨x, a, b⟩ := q3 i d' h
        exact ⟨x, a, b⟩
/-- a comprehension whose element is a function of the item, and whose block leaves the slots as they were -/
theorem lcL_map {own : List Nat} {tg : Tg} {t : M Bool} {f : M O} {e : Sl} (h : D → D) (ds : List D) (hl : ds.length < 10000000)
    (hs : ∀ d ∈ ds, ∃ e1 e2 o e3, tg.go d e = some e1 ∧ t e1 = some (.ok true e2) ∧ f e2 = some (.ok o e3) ∧ o.d = h d ∧ wipeE e3 own = e) : lcL own tg t f ds [] e = some (ds.map h, e) := by
  obtain ⟨xs, e', q1, q2, q3, q4⟩ := lcL_gen (own := own) (tg := tg) (t := t) (f := f) (fun _ e' => e' = e) (fun _ d x => x = h d) ds [] e (by simpa using hl) rfl fun i d e' hd he => by
    subst he
    obtain ⟨e1, e2, o, e3, a, b, c, d', f'⟩ := hs d (List.mem_of_getElem? hd)
    exact ⟨e1, e2, o, e3, a, b, c, d', f'⟩
  rw [q1, q4, List.nil_append]
  congr 2
  apply List.ext_getElem?
  intro i
  rw [List.getElem?_map]
  cases hd : ds[i]? with
  | none => rw [List.getElem?_eq_none (by rw [q2]; exact List.getElem?_eq_none_iff.mp hd)]; rfl
  | some d =>
    obtain ⟨x, hx, e⟩ := q3 i d hd
    rw [hx, e]; rfl
theorem rngD_get {lo hi : Int} {i : Nat} {d : D} (h : (rngD lo hi)[i]? = some d) : d = .int (lo + i) ∧ (i : Int) < hi - lo := by
  unfold rngD at h
  have hl := (List.getElem?_eq_some_iff.mp h).1
  rw [List.length_map, List.length_range] at hl
  rw [List.getElem?_map, List.getElem?_range hl] at h
  cases h
  exact ⟨rfl, by omega⟩
theorem rngD_len {lo hi : Int} : (rngD lo hi).length = (hi - lo).toNat := by unfold rngD; rw [List.length_map, List.length_range]
theorem fmod_pos {a b : Int} (h : 0 < b) : a.fmod b = a % b := Int.fmod_eq_emod_of_nonneg a (Int.le_of_lt h)
theorem fdiv_pos {a b : Int} (h : 0 ≤ b) : a.fdiv b = a / b := Int.fdiv_eq_ediv_of_nonneg a h
theorem atI_nat' {α : Type} {xs : List α} {i : Int} (h0 : 0 ≤ i) (h1 : i < xs.length) : atI xs i = xs[i.toNat]? := by
  unfold atI ixN
  rw [if_pos h0, if_pos h1]; rfl
theorem atI_some {α : Type} {xs : List α} {i : Int} (h0 : 0 ≤ i) (h1 : i < xs.length) : ∃ x, atI xs i = some x ∧ x ∈ xs := by
  rw [atI_nat' h0 h1]
  have h2 : i.toNat < xs.length := by omega
  exact ⟨xs[i.toNat], List.getElem?_eq_getElem h2, List.getElem_mem h2⟩
end Dn

/-! ## 23. Every form, at given slots -/
namespace Dn
open PySem L2
section
variable {α β : Type} (e : Sl)
/-- by computing, but told as a step of its own -/
theorem nr {γ : Type} {a b : γ} (h : a = b) : a = b := h
/-- what follows an outcome; kept as an instance, so that simp leaves it alone until it is reached -/
class Kont (α β : Type) where
  run : α → Sl → Option (Ro β)
@[inline] def thn' {α β : Type} (r : Option (Ro α)) [k : Kont α β] : Option (Ro β) := match r with
  | none => none
  | some (.ex x e') => some (.ex x e')
  | some (.ok a e') => k.run a e'
theorem thn_ok {a : α} {e' : Sl} {k : Kont α β} : @thn' _ _ (some (.ok a e')) k = k.run a e' := nr rfl
theorem thn_ex {x : Exn} {e' : Sl} {k : Kont α β} : @thn' _ _ (some (.ex x e')) k = some (.ex x e') := nr rfl
theorem thn_none {k : Kont α β} : @thn' _ _ none k = none := nr rfl
theorem thn_congr {r : Option (Ro α)} {f g : α → Sl → Option (Ro β)} (h : ∀ a e, f a e = g a e) : @thn' _ _ r ⟨f⟩ = @thn' _ _ r ⟨g⟩ := by rw [show f = g from funext fun a => funext fun e => h a e]
theorem bind_a (m : M α) (f : α → M β) : M.bind m f e = @thn' _ _ (m e) ⟨fun a e' => f a e'⟩ := nr rfl
theorem pure_a (a : α) : M.pure a e = some (.ok a e) := nr rfl
theorem stuck_a : (M.stuck : M α) e = none := nr rfl
def getO (e : Sl) (i : Nat) : Option O := match e[i]? with
  | some (some o) => some o
  | _ => none
theorem getO_nil (i : Nat) : getO [] i = none := by simp [getO]
theorem getO_0 (o : O) (es : Sl) : getO (some o :: es) 0 = some o := nr rfl
theorem getO_0n (es : Sl) : getO (none :: es) 0 = none := nr rfl
theorem getO_s (o : Option O) (es : Sl) (i : Nat) : getO (o :: es) (i + 1) = getO es i := by simp [getO]
theorem ops_n : ops [] e = some (.ok [] e) := nr rfl
theorem ops_b (i : Nat) (ps : List P) : ops (.b i :: ps) e = (match getO e i with
    | some _ => @thn' _ _ (ops ps e) ⟨fun ds e' => (match getO e' i with
      | some o => some (.ok (o.d :: ds) e')
      | none => none)⟩
    | none => none) := by
  conv => lhs; unfold ops
  unfold getO M.bind thn'
  cases h : e[i]? with
  | none => rfl
  | some u =>
    cases u with
    | none => rfl
    | some o =>
      dsimp only
      cases ops ps e with
      | none => rfl
      | some r =>
        cases r with
        | ex x e' => rfl
        | ok ds e' =>
          dsimp only
          cases h2 : e'[i]? with
          | none => rfl
          | some u => cases u <;> rfl
theorem ops_v (f : M O) (ps : List P) : ops (.v f :: ps) e = @thn' _ _ (f e) ⟨fun o e1 => @thn' _ _ (ops ps e1) ⟨fun ds e2 => some (.ok (o.d :: ds) e2)⟩⟩ := nr rfl
theorem ap_a (g : List D → Option O) (ps : List P) : ap g ps e = @thn' _ _ (ops ps e) ⟨fun ds e' => (g ds).map fun o => .ok o e'⟩ := nr rfl
theorem eC_a (d : D) : eC d e = some (.ok (.fr d) e) := nr rfl
theorem eVar_a (i : Nat) : eVar i e = (match getO e i with
    | some (.fr d) => some (.ok (.fr d) e)
    | some (.lst ds) => some (.ok (.fr (.lst ds)) (e.set i (some (.fr (.lst ds)))))
    | some (.dct ks ds) => some (.ok (.fr (.dct ks ds)) (e.set i (some (.fr (.dct ks ds)))))
    | some (.ins c ns ds) => some (.ok (.fr (.ins c ns ds)) (e.set i (some (.fr (.ins c ns ds)))))
    | _ => none) := by
  unfold eVar getO
  cases h : e[i]? with
  | none => rfl
  | some u => cases u with
    | none => rfl
    | some o => cases o <;> rfl
theorem eMove_a (i : Nat) : eMove i e = (match getO e i with
    | some (.fr d) => some (.ok (.fr d) e)
    | some o => some (.ok o (e.set i none))
    | none => none) := by
  unfold eMove getO
  cases h : e[i]? with
  | none => rfl
  | some u => cases u with
    | none => rfl
    | some o => cases o <;> rfl
theorem eFz_a (f : M O) : eFz f e = @thn' _ _ (f e) ⟨fun o e' => some (.ok (.fr o.d) e')⟩ := nr rfl
theorem eIf_a (c : M Bool) (f g : M O) : eIf c f g e = @thn' _ _ (c e) ⟨fun b e' => if b = true then f e' else g e'⟩ := by
  show @thn' _ _ (c e) ⟨_⟩ = _
  exact thn_congr fun b _ => by cases b <;> rfl
theorem eAnd_a (f g : M O) : eAnd f g e = @thn' _ _ (f e) ⟨fun o e' => (match o with
    | .fr (.bl true) => g e'
    | .fr (.bl false) => some (.ok (.fr (.bl false)) e')
    | _ => none)⟩ := by
  show @thn' _ _ (f e) ⟨_⟩ = _
  refine thn_congr fun o e' => ?_
  cases o with
  | lst _ => rfl
  | dct _ _ => rfl
  | ins _ _ _ => rfl
  | exn _ _ _ => rfl
  | tr _ => rfl
  | fr d => cases d with
    | bl b => cases b <;> rfl
    | _ => rfl
theorem eOr_a (f g : M O) : eOr f g e = @thn' _ _ (f e) ⟨fun o e' => (match o with
    | .fr (.bl false) => g e'
    | .fr (.bl true) => some (.ok (.fr (.bl true)) e')
    | _ => none)⟩ := by
  show @thn' _ _ (f e) ⟨_⟩ = _
  refine thn_congr fun o e' => ?_
  cases o with
  | lst _ => rfl
  | dct _ _ => rfl
  | ins _ _ _ => rfl
  | exn _ _ _ => rfl
  | tr _ => rfl
  | fr d => cases d with
    | bl b => cases b <;> rfl
    | _ => rfl
theorem eNot_a (f : M O) : eNot f e = @thn' _ _ (f e) ⟨fun o e' => (match o with
    | .fr (.bl b) => some (.ok (.fr (.bl (!b))) e')
    | _ => none)⟩ := by
  show @thn' _ _ (f e) ⟨_⟩ = _
  refine thn_congr fun o e' => ?_
  cases o with
  | lst _ => rfl
  | dct _ _ => rfl
  | ins _ _ _ => rfl
  | exn _ _ _ => rfl
  | tr _ => rfl
  | fr d => cases d <;> rfl
theorem tst_a (f : M O) : tst f e = @thn' _ _ (f e) ⟨fun o e' => (match o with
    | .fr (.bl b) => some (.ok b e')
    | _ => none)⟩ := by
  show @thn' _ _ (f e) ⟨_⟩ = _
  refine thn_congr fun o e' => ?_
  cases o with
  | lst _ => rfl
  | dct _ _ => rfl
  | ins _ _ _ => rfl
  | exn _ _ _ => rfl
  | tr _ => rfl
  | fr d => cases d <;> rfl
theorem cAnd_a (c d : M Bool) : cAnd c d e = @thn' _ _ (c e) ⟨fun b e' => if b = true then d e' else some (.ok false e')⟩ := by
  show @thn' _ _ (c e) ⟨_⟩ = _
  exact thn_congr fun b _ => by cases b <;> rfl
theorem cOr_a (c d : M Bool) : cOr c d e = @thn' _ _ (c e) ⟨fun b e' => if b = true then some (.ok true e') else d e'⟩ := by
  show @thn' _ _ (c e) ⟨_⟩ = _
  exact thn_congr fun b _ => by cases b <;> rfl
theorem cNot_a (c : M Bool) : cNot c e = @thn' _ _ (c e) ⟨fun b e' => some (.ok (!b) e')⟩ := nr rfl
theorem items_n : items [] e = some (.ok [] e) := nr rfl
theorem items_c (f : M O) (fs : List (M O)) : items (f :: fs) e = @thn' _ _ (f e) ⟨fun o e1 => @thn' _ _ (items fs e1) ⟨fun ds e2 => some (.ok (o.d :: ds) e2)⟩⟩ := nr rfl
theorem eTup_a (fs : List (M O)) : eTup fs e = @thn' _ _ (items fs e) ⟨fun ds e' => some (.ok (.fr (.tup ds)) e')⟩ := nr rfl
theorem eLst_a (fs : List (M O)) : eLst fs e = @thn' _ _ (items fs e) ⟨fun ds e' => some (.ok (.lst ds) e')⟩ := nr rfl
theorem sNext_a : sNext e = some (.ok .next e) := nr rfl
theorem sBrk_a : sBrk e = some (.ok .brk e) := nr rfl
theorem sCnt_a : sCnt e = some (.ok .cnt e) := nr rfl
theorem sSeq_a (a b : M Fl) : sSeq a b e = @thn' _ _ (a e) ⟨fun f e' => (match f with
    | .next => b e'
    | .ret o => some (.ok (.ret o) e')
    | .brk => some (.ok .brk e')
    | .cnt => some (.ok .cnt e'))⟩ := by
  show @thn' _ _ (a e) ⟨_⟩ = _
  exact thn_congr fun f _ => by cases f <;> rfl
theorem sIf_a (c : M Bool) (a b : M Fl) : sIf c a b e = @thn' _ _ (c e) ⟨fun t e' => if t = true then a e' else b e'⟩ := by
  show @thn' _ _ (c e) ⟨_⟩ = _
  exact thn_congr fun b _ => by cases b <;> rfl
theorem sRet_a (f : M O) : sRet f e = @thn' _ _ (f e) ⟨fun o e' => some (.ok (.ret o) e')⟩ := nr rfl
theorem sDrop_a (f : M O) : sDrop f e = @thn' _ _ (f e) ⟨fun _ e' => some (.ok .next e')⟩ := nr rfl
theorem sSet_a (i : Nat) (f : M O) : sSet i f e = @thn' _ _ (f e) ⟨fun o e' => some (.ok .next (e'.set i (some o)))⟩ := nr rfl
theorem sFor_a (src : M (List D)) (tg : Tg) (b : M Fl) : sFor src tg b e = @thn' _ _ (src e) ⟨fun ds e' => forL tg b ds e'⟩ := nr rfl
theorem eCall_a (F : Fn) (ps : List P) (dv : List D) : eCall F ps dv e = @thn' _ _ (cops ps e) ⟨fun os e' => (match F (os ++ dv.map .fr) with
    | none => none
    | some (.ok o os') => some (.ok o (wb ps os' e'))
    | some (.ex x os') => some (.ex x (wb ps os' e')))⟩ := nr rfl
theorem cops_n : cops [] e = some (.ok [] e) := nr rfl
theorem cops_b (i : Nat) (ps : List P) : cops (.b i :: ps) e = (match getO e i with
    | some _ => @thn' _ _ (cops ps e) ⟨fun ds e' => (match getO e' i with
      | some o => some (.ok (o :: ds) e')
      | none => none)⟩
    | none => none) := by
  conv => lhs; unfold cops
  unfold getO M.bind thn'
  cases h : e[i]? with
  | none => rfl
  | some u =>
    cases u with
    | none => rfl
    | some o =>
      dsimp only
      cases cops ps e with
      | none => rfl
      | some r =>
        cases r with
        | ex x e' => rfl
        | ok ds e' =>
          dsimp only
          cases h2 : e'[i]? with
          | none => rfl
          | some u => cases u <;> rfl
theorem cops_v (f : M O) (ps : List P) : cops (.v f :: ps) e = @thn' _ _ (f e) ⟨fun o e1 => @thn' _ _ (cops ps e1) ⟨fun ds e2 => some (.ok (.fr o.d :: ds) e2)⟩⟩ := nr rfl
theorem sSeqD_a (f : M O) : sSeqD f e = @thn' _ _ (f e) ⟨fun o e' => (seqD o.d).map fun ds => .ok ds e'⟩ := nr rfl
theorem sRng1_a (p : P) : sRng1 p e = @thn' _ _ (ops [p] e) ⟨fun ds e' => (match ds with
    | [.int j] => if inR j = true then some (.ok (rngD 0 j) e') else none
    | _ => none)⟩ := nr rfl
theorem sRng2_a (p q : P) : sRng2 p q e = @thn' _ _ (ops [p, q] e) ⟨fun ds e' => (match ds with
    | [.int i, .int j] => if (inR i && inR j) = true then some (.ok (rngD i j) e') else none
    | _ => none)⟩ := nr rfl
theorem sEnum_a (p : P) : sEnum p e = @thn' _ _ (ops [p] e) ⟨fun ds e' => (match ds with
    | [.lst xs] => some (.ok (enumD 0 xs) e')
    | _ => none)⟩ := nr rfl
theorem eComp_a (own : List Nat) (src : M (List D)) (tg : Tg) (t : M Bool) (f : M O) : eComp own src tg t f e = @thn' _ _ (src e) ⟨fun ds e' => (match lcL own tg t f ds [] (wipeE e' own) with
    | some (acc, e2) => some (.ok (.lst acc) (restE e' e2 own))
    | none => none)⟩ := nr rfl
theorem eMut1_a (g : List D → D → Option (D × List D)) (i : Nat) (f : M O) : eMut1 g i f e = (match getO e i with
    | some (.lst _) => @thn' _ _ (f e) ⟨fun o e' => (match getO e' i with
      | some (.lst ds) => (match g ds o.d with
        | some (r, ds') => some (.ok (.fr r) (e'.set i (some (.lst ds'))))
        | none => none)
      | _ => none)⟩
    | _ => none) := by
  unfold eMut1 getO M.bind thn'
  cases h : e[i]? with
  | none => rfl
  | some u =>
    cases u with
    | none => rfl
    | some o =>
      cases o with
      | fr d => rfl
      | dct _ _ => rfl
      | ins _ _ _ => rfl
      | exn _ _ _ => rfl
      | tr _ => rfl
      | lst ds =>
        dsimp only
        cases f e with
        | none => rfl
        | some r =>
          cases r with
          | ex x e' => rfl
          | ok ds e' =>
            dsimp only
            cases h2 : e'[i]? with
            | none => rfl
            | some u => cases u with
              | none => rfl
              | some o => cases o <;> rfl
theorem eMut0_a (g : List D → Option (D × List D)) (i : Nat) : eMut0 g i e = (match getO e i with
    | some (.lst ds) => (match g ds with
      | some (r, ds') => some (.ok (.fr r) (e.set i (some (.lst ds'))))
      | none => none)
    | _ => none) := by
  unfold eMut0 getO
  cases h : e[i]? with
  | none => rfl
  | some u =>
    cases u with
    | none => rfl
    | some o => cases o <;> rfl
theorem sSetIx_a (i : Nat) (fk fv : M O) : sSetIx i fk fv e = @thn' _ _ (fv e) ⟨fun o e1 => (match getO e1 i with
    | some (.lst _) => @thn' _ _ (fk e1) ⟨fun k e2 => (match getO e2 i with
      | some (.lst ds) => (match k with
        | .fr (.int j) => (match ixN ds.length j with
          | some n => some (.ok .next (e2.set i (some (.lst (ds.set n o.d)))))
          | none => none)
        | _ => none)
      | _ => none)⟩
    | _ => none)⟩ := by
  show @thn' _ _ (fv e) ⟨_⟩ = _
  refine thn_congr fun o e1 => ?_
  unfold getO M.bind thn'
  cases h : e1[i]? with
  | none => rfl
  | some u =>
    cases u with
    | none => rfl
    | some o =>
      cases o with
      | fr d => rfl
      | dct _ _ => rfl
      | ins _ _ _ => rfl
      | exn _ _ _ => rfl
      | tr _ => rfl
      | lst ds =>
        dsimp only
        cases fk e1 with
        | none => rfl
        | some r =>
          cases r with
          | ex x e' => rfl
          | ok k e2 =>
            dsimp only
            cases h2 : e2[i]? with
            | none => rfl
            | some u => cases u with
              | none => rfl
              | some o => cases o <;> rfl
theorem eChain_a (g g2 : List D → Option O) (fa fb fc : M O) : eChain g g2 fa fb fc e = @thn' _ _ (fa e) ⟨fun oa e1 => @thn' _ _ (fb e1) ⟨fun ob e2 => (match g [oa.d, ob.d] with
    | some (.fr (.bl true)) => @thn' _ _ (fc e2) ⟨fun oc e3 => (g2 [ob.d, oc.d]).map fun o => .ok o e3⟩
    | some (.fr (.bl false)) => some (.ok (bO false) e2)
    | _ => none)⟩⟩ := nr rfl
theorem tru_a (p : P) : tru p e = @thn' _ _ (ops [p] e) ⟨fun ds e' => (match ds with
    | [d] => (truD d).map fun b => .ok b e'
    | _ => none)⟩ := nr rfl
theorem sAug_a (g : List D → Option O) (i : Nat) (f : M O) : sAug g i f e = (match getO e i with
    | some (.fr a) => @thn' _ _ (f e) ⟨fun o e' => (match g [a, o.d] with
      | some (.fr r) => some (.ok .next (e'.set i (some (.fr r))))
      | _ => none)⟩
    | _ => none) := by
  unfold sAug getO
  cases h : e[i]? with
  | none => rfl
  | some u =>
    cases u with
    | none => rfl
    | some o =>
      cases o with
      | lst _ => rfl
      | dct _ _ => rfl
      | ins _ _ _ => rfl
      | exn _ _ _ => rfl
      | tr _ => rfl
      | fr a => rfl
theorem sSetT_a (tg : Tg) (f : M O) : sSetT tg f e = @thn' _ _ (f e) ⟨fun o e' => (tg.go o.d e').map fun e2 => .ok .next e2⟩ := nr rfl
theorem apM_b (chk : D → Bool) (g : List D → Option O) (i : Nat) (ps : List P) : apM chk g (.b i) ps e = (match getO e i with
    | some o => if chk o.d = true then ap g (.b i :: ps) e else none
    | none => none) := by
  unfold apM getO
  dsimp only
  cases h : e[i]? with
  | none => rfl
  | some u => cases u <;> rfl
theorem apM_v (chk : D → Bool) (g : List D → Option O) (f : M O) (ps : List P) : apM chk g (.v f) ps e = @thn' _ _ (f e) ⟨fun o e1 => if chk o.d = true then (@thn' _ _ (ops ps e1) ⟨fun ds e' => (g (o.d :: ds)).map fun r => .ok r e'⟩) else none⟩ := by
  unfold apM
  show @thn' _ _ (f e) ⟨_⟩ = _
  refine thn_congr fun o e1 => ?_
  cases chk o.d <;> rfl
theorem eI_a (f : M O) : eI f e = @thn' _ _ (f e) ⟨fun o e' => (match o with
    | .fr (.int i) => some (.ok (.fr (.int i)) e')
    | _ => none)⟩ := by
  show @thn' _ _ (f e) ⟨_⟩ = _
  refine thn_congr fun o e' => ?_
  cases o with
  | lst _ => rfl
  | dct _ _ => rfl
  | ins _ _ _ => rfl
  | exn _ _ _ => rfl
  | tr _ => rfl
  | fr d => cases d <;> rfl
theorem mkF_a (m : Nat) (ks : List Nat) (g : M Fl) (os : List O) : mkF m ks g os = (match g (os.map some ++ List.replicate (m - os.length) none) with
    | some (.ok (.ret o) e') => (finO ks 0 os e').map (RF.ok o)
    | some (.ok .next e') => (finO ks 0 os e').map (RF.ok (.fr .non))
    | some (.ex x e') => (finO ks 0 os e').map (RF.ex x)
    | _ => none) := by
  unfold mkF
  cases g (os.map some ++ List.replicate (m - os.length) none) with
  | none => rfl
  | some r => cases r with
    | ex x e' => rfl
    | ok fl e' => cases fl <;> rfl
theorem finO_n (ks : List Nat) (k : Nat) : finO ks k [] e = some [] := nr rfl
theorem finO_c (ks : List Nat) (k : Nat) (o : O) (os : List O) : finO ks k (o :: os) e = (match (if k ∈ ks then getO e k else (match o with | .fr d => some (.fr d) | _ => none)) with
    | some o' => (finO ks (k + 1) os e).map (o' :: ·)
    | none => none) := by
  conv => lhs; unfold finO
  unfold getO
  by_cases h : k ∈ ks
  · simp only [if_pos h] <;> (rcases e[k]? with _ | (_ | _) <;> rfl)
  · simp only [if_neg h] <;> cases o <;> rfl
end
end Dn

namespace Dn
open PySem L2
theorem isi_int_non  : isi "int" .non = some false := (by decide +kernel : kitB "NoneType" "int" = some false)
theorem isi_int_bl (x : Bool) : isi "int" (.bl x) = some true := (by decide +kernel : kitB "bool" "int" = some true)
theorem isi_int_int (x : Int) : isi "int" (.int x) = some true := (by decide +kernel : kitB "int" "int" = some true)
theorem isi_int_str (x : Str) : isi "int" (.str x) = some false := (by decide +kernel : kitB "str" "int" = some false)
theorem isi_int_lst (x : List D) : isi "int" (.lst x) = some false := (by decide +kernel : kitB "list" "int" = some false)
theorem isi_int_scr (x : List Int) : isi "int" (.scr x) = some false := (by decide +kernel : kitB "list" "int" = some false)
theorem isi_int_tup (x : List D) : isi "int" (.tup x) = some false := (by decide +kernel : kitB "tuple" "int" = some false)
theorem isi_bool_non  : isi "bool" .non = some false := (by decide +kernel : kitB "NoneType" "bool" = some false)
theorem isi_bool_bl (x : Bool) : isi "bool" (.bl x) = some true := (by decide +kernel : kitB "bool" "bool" = some true)
theorem isi_bool_int (x : Int) : isi "bool" (.int x) = some false := (by decide +kernel : kitB "int" "bool" = some false)
theorem isi_bool_str (x : Str) : isi "bool" (.str x) = some false := (by decide +kernel : kitB "str" "bool" = some false)
theorem isi_bool_lst (x : List D) : isi "bool" (.lst x) = some false := (by decide +kernel : kitB "list" "bool" = some false)
theorem isi_bool_scr (x : List Int) : isi "bool" (.scr x) = some false := (by decide +kernel : kitB "list" "bool" = some false)
theorem isi_bool_tup (x : List D) : isi "bool" (.tup x) = some false := (by decide +kernel : kitB "tuple" "bool" = some false)
theorem isi_str_non  : isi "str" .non = some false := (by decide +kernel : kitB "NoneType" "str" = some false)
theorem isi_str_bl (x : Bool) : isi "str" (.bl x) = some false := (by decide +kernel : kitB "bool" "str" = some false)
theorem isi_str_int (x : Int) : isi "str" (.int x) = some false := (by decide +kernel : kitB "int" "str" = some false)
theorem isi_str_str (x : Str) : isi "str" (.str x) = some true := (by decide +kernel : kitB "str" "str" = some true)
theorem isi_str_lst (x : List D) : isi "str" (.lst x) = some false := (by decide +kernel : kitB "list" "str" = some false)
theorem isi_str_scr (x : List Int) : isi "str" (.scr x) = some false := (by decide +kernel : kitB "list" "str" = some false)
theorem isi_str_tup (x : List D) : isi "str" (.tup x) = some false := (by decide +kernel : kitB "tuple" "str" = some false)
theorem isi_list_non  : isi "list" .non = some false := (by decide +kernel : kitB "NoneType" "list" = some false)
theorem isi_list_bl (x : Bool) : isi "list" (.bl x) = some false := (by decide +kernel : kitB "bool" "list" = some false)
theorem isi_list_int (x : Int) : isi "list" (.int x) = some false := (by decide +kernel : kitB "int" "list" = some false)
theorem isi_list_str (x : Str) : isi "list" (.str x) = some false := (by decide +kernel : kitB "str" "list" = some false)
theorem isi_list_lst (x : List D) : isi "list" (.lst x) = some true := (by decide +kernel : kitB "list" "list" = some true)
theorem isi_list_scr (x : List Int) : isi "list" (.scr x) = some true := (by decide +kernel : kitB "list" "list" = some true)
theorem isi_list_tup (x : List D) : isi "list" (.tup x) = some false := (by decide +kernel : kitB "tuple" "list" = some false)
theorem isi_tuple_non  : isi "tuple" .non = some false := (by decide +kernel : kitB "NoneType" "tuple" = some false)
theorem isi_tuple_bl (x : Bool) : isi "tuple" (.bl x) = some false := (by decide +kernel : kitB "bool" "tuple" = some false)
theorem isi_tuple_int (x : Int) : isi "tuple" (.int x) = some false := (by decide +kernel : kitB "int" "tuple" = some false)
theorem isi_tuple_str (x : Str) : isi "tuple" (.str x) = some false := (by decide +kernel : kitB "str" "tuple" = some false)
theorem isi_tuple_lst (x : List D) : isi "tuple" (.lst x) = some false := (by decide +kernel : kitB "list" "tuple" = some false)
theorem isi_tuple_scr (x : List Int) : isi "tuple" (.scr x) = some false := (by decide +kernel : kitB "list" "tuple" = some false)
theorem isi_tuple_tup (x : List D) : isi "tuple" (.tup x) = some true := (by decide +kernel : kitB "tuple" "tuple" = some true)
end Dn

namespace Dn
open PySem L2

/-! ## 24. What holds of an outcome -/
class PostE (α : Type) where
  run : α → Sl → Prop
def EvC {α : Type} (r : Option (Ro α)) [Q : PostE α] [X : PostE Exn] : Prop := match r with
  | some (.ok a e) => Q.run a e
  | some (.ex x e) => X.run x e
  | none => False
def Ev {α : Type} (r : Option (Ro α)) (Q : α → Sl → Prop) (X : Exn → Sl → Prop) : Prop := @EvC _ r ⟨Q⟩ ⟨X⟩
class PostF (α : Type) where
  run : α → List O → Prop
def FEvC (r : Option RF) [Q : PostF O] [X : PostF Exn] : Prop := match r with
  | some (.ok o os) => Q.run o os
  | some (.ex x os) => X.run x os
  | none => False
def FEv (r : Option RF) (Q : O → List O → Prop) (X : Exn → List O → Prop) : Prop := @FEvC r ⟨Q⟩ ⟨X⟩
section
variable {α β : Type}
theorem Ev_d {r : Option (Ro α)} {Q : α → Sl → Prop} {X : Exn → Sl → Prop} : Ev r Q X = @EvC _ r ⟨Q⟩ ⟨X⟩ := nr rfl
theorem FEv_d {r : Option RF} {Q : O → List O → Prop} {X : Exn → List O → Prop} : FEv r Q X = @FEvC r ⟨Q⟩ ⟨X⟩ := nr rfl
theorem Ev_ok {a : α} {e : Sl} {Q : PostE α} {X : PostE Exn} : @EvC _ (some (.ok a e)) Q X = Q.run a e := nr rfl
theorem Ev_ex {x : Exn} {e : Sl} {Q : PostE α} {X : PostE Exn} : @EvC _ (some (.ex x e)) Q X = X.run x e := nr rfl
theorem Ev_none {Q : PostE α} {X : PostE Exn} : @EvC _ none Q X = False := nr rfl
theorem FEv_ok {a : O} {e : List O} {Q : PostF O} {X : PostF Exn} : @FEvC (some (.ok a e)) Q X = Q.run a e := nr rfl
theorem FEv_ex {x : Exn} {e : List O} {Q : PostF O} {X : PostF Exn} : @FEvC (some (.ex x e)) Q X = X.run x e := nr rfl
theorem FEv_none {Q : PostF O} {X : PostF Exn} : @FEvC none Q X = False := nr rfl
theorem Ev_thn {r : Option (Ro α)} {k : Kont α β} {Q : PostE β} {X : PostE Exn} : @EvC _ (@thn' _ _ r k) Q X = @EvC _ r ⟨fun a e => @EvC _ (k.run a e) Q X⟩ X := by
  cases r with
  | none => rfl
  | some r => cases r <;> rfl
theorem Ev.mono {r : Option (Ro α)} {Q Q' : α → Sl → Prop} {X X' : Exn → Sl → Prop} (h : Ev r Q X) (hq : ∀ a e, Q a e → Q' a e) (hx : ∀ x e, X x e → X' x e) : Ev r Q' X' := by
  unfold Ev EvC at *
  cases r with
  | none => exact h
  | some r => cases r with
    | ok a e => exact hq _ _ h
    | ex x e => exact hx _ _ h
theorem FEv.mono {r : Option RF} {Q Q' : O → List O → Prop} {X X' : Exn → List O → Prop} (h : FEv r Q X) (hq : ∀ a e, Q a e → Q' a e) (hx : ∀ x e, X x e → X' x e) : FEv r Q' X' := by
  unfold FEv FEvC at *
  cases r with
  | none => exact h
  | some r => cases r with
    | ok a e => exact hq _ _ h
    | ex x e => exact hx _ _ h
theorem Ev.get {r : Option (Ro α)} {Q : α → Sl → Prop} (h : Ev r Q fun _ _ => False) : ∃ a e, r = some (.ok a e) ∧ Q a e := by
  unfold Ev EvC at h
  split at h
  · exact ⟨_, _, rfl, h⟩
  · exact h.elim
  · exact h.elim
theorem FEv.get {r : Option RF} {Q : O → List O → Prop} (h : FEv r Q fun _ _ => False) : ∃ a e, r = some (.ok a e) ∧ Q a e := by
  unfold FEv FEvC at h
  split at h
  · exact ⟨_, _, rfl, h⟩
  · exact h.elim
  · exact h.elim
theorem FEv.of {r : Option RF} {o : O} {os : List O} {Q : O → List O → Prop} {X : Exn → List O → Prop} (h : r = some (.ok o os)) (q : Q o os) : FEv r Q X := by rw [h]; exact q
/-- what a def hands back, of what its body does -/
def finR (ks : List Nat) (os : List O) (r : Option (Ro Fl)) : Option RF := match r with
  | some (.ok (.ret o) e') => (finO ks 0 os e').map (RF.ok o)
  | some (.ok .next e') => (finO ks 0 os e').map (RF.ok (.fr .non))
  | some (.ex x e') => (finO ks 0 os e').map (RF.ex x)
  | _ => none
theorem mkF_e (m : Nat) (ks : List Nat) (g : M Fl) (os : List O) : mkF m ks g os = finR ks os (g (os.map some ++ List.replicate (m - os.length) none)) := mkF_a m ks g os
theorem finR_ret {ks : List Nat} {os : List O} {o : O} {e : Sl} : finR ks os (some (.ok (.ret o) e)) = (finO ks 0 os e).map (RF.ok o) := nr rfl
theorem finR_next {ks : List Nat} {os : List O} {e : Sl} : finR ks os (some (.ok .next e)) = (finO ks 0 os e).map (RF.ok (.fr .non)) := nr rfl
theorem finR_ex {ks : List Nat} {os : List O} {x : Exn} {e : Sl} : finR ks os (some (.ex x e)) = (finO ks 0 os e).map (RF.ex x) := nr rfl
theorem FEv_fin {ks : List Nat} {os : List O} {r : Option (Ro Fl)} {Q : PostF O} {X : PostF Exn} : @FEvC (finR ks os r) Q X = @EvC _ r ⟨fun fl e => match fl with
    | .ret o => @FEvC ((finO ks 0 os e).map (RF.ok o)) Q X
    | .next => @FEvC ((finO ks 0 os e).map (RF.ok (.fr .non))) Q X
    | _ => False⟩ ⟨fun x e => @FEvC ((finO ks 0 os e).map (RF.ex x)) Q X⟩ := by
  unfold finR EvC
  cases r with
  | none => rfl
  | some r => cases r with
    | ex x e => rfl
    | ok fl e => cases fl <;> rfl
/-- what a loop may do in one turn -/
def TurnOk (R : M Fl) (e : Sl) (I : Sl → Prop) (Rt : O → Sl → Prop) (Bk : Sl → Prop) (X : Exn → Sl → Prop) : Prop := Ev (R e) (fun fl e2 => match fl with
  | .next => I e2
  | .cnt => I e2
  | .brk => Bk e2
  | .ret o => Rt o e2) X
theorem Ev_forL {tg : Tg} {body : M Fl} {X : Exn → Sl → Prop} (I : Nat → Sl → Prop) (Q : Fl → Sl → Prop) : ∀ (ds : List D) (e : Sl), I 0 e →
    (∀ (i : Nat) (d : D) (e : Sl), ds[i]? = some d → I i e → ∃ e1, tg.go d e = some e1 ∧ Ev (body e1) (fun fl e2 => match fl with
      | .next => I (i + 1) e2
      | .cnt => I (i + 1) e2
      | .brk => Q .next e2
      | .ret o => Q (.ret o) e2) X) → (∀ e, I ds.length e → Q .next e) →
    Ev (forL tg body ds e) Q X
  | [], e, h0, _, hq => hq e h0
  | d :: ds, e, h0, hs, hq => by
    obtain ⟨e1, h1, h2⟩ := hs 0 d e rfl h0
    unfold Ev EvC at h2
    unfold forL
    rw [h1]
    dsimp only
    cases h3 : body e1 with
    | none => rw [h3] at h2; exact h2.elim
    | some r =>
      rw [h3] at h2
      cases r with
      | ex x e2 => exact h2
      | ok fl e2 =>
        cases fl with
        | next => exact Ev_forL (fun i => I (i + 1)) Q ds e2 h2 (fun i d e hd hi => hs (i + 1) d e hd hi) hq
        | cnt => exact Ev_forL (fun i => I (i + 1)) Q ds e2 h2 (fun i d e hd hi => hs (i + 1) d e hd hi) hq
        | brk => exact h2
        | ret o => exact h2
theorem Ev_whL {c : M Bool} {body : M Fl} {X : Exn → Sl → Prop} (I : Nat → Sl → Prop) (Q : Fl → Sl → Prop) (hs : ∀ (m : Nat) (e : Sl), I m e → Ev (c e) (fun b e1 => if b = true then Ev (body e1) (fun fl e2 => match fl with
      | .next => ∃ m', m' < m ∧ I m' e2
      | .cnt => ∃ m', m' < m ∧ I m' e2
      | .brk => Q .next e2
      | .ret o => Q (.ret o) e2) X else Q .next e1) X) : ∀ (n m : Nat) (e : Sl), m < n → I m e → Ev (whL c body n e) Q X
  | 0, _, _, h, _ => absurd h (Nat.not_lt_zero _)
  | n + 1, m, e, hn, hi => by
    have h := hs m e hi
    unfold whL M.bind
    unfold Ev EvC at h
    cases h1 : c e with
    | none => rw [h1] at h; exact h.elim
    | some r =>
      rw [h1] at h
      cases r with
      | ex x e1 => exact h
      | ok b e1 =>
        dsimp only at h ⊢
        cases b with
        | false => exact h
        | true =>
          rw [if_pos rfl] at h
          rw [if_pos rfl]
          cases h2 : body e1 with
          | none => rw [h2] at h; exact h.elim
          | some r =>
            rw [h2] at h
            cases r with
            | ex x e2 => exact h
            | ok fl e2 =>
              cases fl with
              | next => obtain ⟨m', hm, hi'⟩ := h; exact Ev_whL I Q hs n m' e2 (by omega) hi'
              | cnt => obtain ⟨m', hm, hi'⟩ := h; exact Ev_whL I Q hs n m' e2 (by omega) hi'
              | brk => exact h
              | ret o => exact h
/-- what is left of a call -/
def callR (ps : List P) (e : Sl) (r : Option RF) : Option (Ro O) := match r with
  | none => none
  | some (.ok o os') => some (.ok o (wb ps os' e))
  | some (.ex x os') => some (.ex x (wb ps os' e))
theorem callR_ok {ps : List P} {e : Sl} {o : O} {os : List O} : callR ps e (some (.ok o os)) = some (.ok o (wb ps os e)) := nr rfl
theorem callR_ex {ps : List P} {e : Sl} {x : Exn} {os : List O} : callR ps e (some (.ex x os)) = some (.ex x (wb ps os e)) := nr rfl
theorem eCall_e (F : Fn) (ps : List P) (dv : List D) (e : Sl) : eCall F ps dv e = @thn' _ _ (cops ps e) ⟨fun os e' => callR ps e' (F (os ++ dv.map .fr))⟩ := eCall_a e F ps dv
theorem Ev_callR {ps : List P} {e : Sl} {r : Option RF} {Q : PostE O} {X : PostE Exn} : @EvC _ (callR ps e r) Q X = @FEvC r ⟨fun o os' => Q.run o (wb ps os' e)⟩ ⟨fun x os' => X.run x (wb ps os' e)⟩ := by
  cases r with
  | none => rfl
  | some r => cases r <;> rfl
/-- what is left of a comprehension -/
def lcR (own : List Nat) (e : Sl) (r : Option (List D × Sl)) : Option (Ro O) := match r with
  | some (acc, e2) => some (.ok (.lst acc) (restE e e2 own))
  | none => none
theorem lcR_ok {own : List Nat} {e : Sl} {acc : List D} {e2 : Sl} : lcR own e (some (acc, e2)) = some (.ok (.lst acc) (restE e e2 own)) := nr rfl
theorem eComp_e (own : List Nat) (src : M (List D)) (tg : Tg) (t : M Bool) (f : M O) (e : Sl) : eComp own src tg t f e = @thn' _ _ (src e) ⟨fun ds e' => lcR own e' (lcL own tg t f ds [] (wipeE e' own))⟩ := nr rfl
theorem Ev_lcR {own : List Nat} {e : Sl} {r : Option (List D × Sl)} {Q : PostE O} {X : PostE Exn} : @EvC _ (lcR own e r) Q X = ∃ acc e2, r = some (acc, e2) ∧ Q.run (.lst acc) (restE e e2 own) := by
  cases r with
  | none => exact propext ⟨fun h => h.elim, fun ⟨_, _, h, _⟩ => by cases h⟩
  | some r => exact propext ⟨fun h => ⟨_, _, rfl, h⟩, fun ⟨_, _, h, q⟩ => by cases h; exact q⟩
end
theorem wipeE_n (e : Sl) : wipeE e [] = e := nr rfl
theorem wipeE_c (e : Sl) (v : Nat) (vs : List Nat) : wipeE e (v :: vs) = (wipeE e vs).set v none := nr rfl
theorem restE_n (e0 e : Sl) : restE e0 e [] = e := nr rfl
theorem restE_c (e0 e : Sl) (v : Nat) (vs : List Nat) : restE e0 e (v :: vs) = (match getO e0 v with
    | some (.fr d) => (restE e0 e vs).set v (some (.fr d))
    | _ => restE e0 e vs) := by
  conv => lhs; unfold restE
  unfold getO
  cases e0[v]? with
  | none => rfl
  | some u => cases u with
    | none => rfl
    | some o => cases o <;> rfl
theorem mul_small {i j : Int} (h : -(2 ^ 64) < i ∧ i < 2 ^ 64) : mulOk i j = true := by
  unfold mulOk
  rw [decide_eq_true h]; rfl
theorem mul_small' {i j : Int} (h : -(2 ^ 64) < j ∧ j < 2 ^ 64) : mulOk i j = true := by
  unfold mulOk
  rw [decide_eq_true h, Bool.or_true]
theorem mod_ge {a b : Int} (h : 0 < b) : 0 ≤ a % b := Int.emod_nonneg a (by omega)
theorem mod_lt {a b : Int} (h : 0 < b) : a % b < b := Int.emod_lt_of_pos a h
theorem inR_pos {i : Int} (h0 : 0 ≤ i) (h1 : i ≤ 1000000) : inR i = true := by unfold inR; exact decide_eq_true ⟨by omega, by omega⟩
theorem rngD_mem {lo hi : Int} {d : D} (h : d ∈ rngD lo hi) : ∃ i : Int, d = .int i ∧ lo ≤ i ∧ i < hi := by
  obtain ⟨k, hk⟩ := List.getElem?_of_mem h
  obtain ⟨h1, h2⟩ := rngD_get hk
  exact ⟨_, h1, by omega, by omega⟩
end Dn

namespace Dn
open PySem L2

/-! ## 25. Texts by their signs -/
abbrev zl (z : Str) : List Nat := z.cps.toList
abbrev one (c : Nat) : Str := ⟨#[c]⟩
theorem len_zl (z : Str) : z.length = (zl z).length := rfl
theorem zl_inj {a b : Str} (h : zl a = zl b) : a = b := by
  have hc : a.cps = b.cps := Array.toList_inj.mp h
  cases a; cases b
  simp only [Str.mk.injEq]; exact hc
theorem zl_app (a b : Str) : zl (a ++ b) = zl a ++ zl b := by
  show (a.cps ++ b.cps).toList = _
  exact Array.toList_append
theorem zl_one (c : Nat) : zl (one c) = [c] := rfl
theorem zl_e : zl (PySem.Str.ofString "") = [] := by decide +kernel
theorem zl_join0 : ∀ l : List Str, zl (Txt.join (PySem.Str.ofString "") l) = l.flatMap zl
  | [] => by rw [TL.join_eq]; rfl
  | [x] => by
    rw [TL.join_eq]
    show zl x = [x].flatMap zl
    rw [List.flatMap_cons, List.flatMap_nil, List.append_nil]
  | x :: y :: r => by
    have ih := zl_join0 (y :: r)
    rw [TL.join_eq] at ih ⊢
    show zl (x ++ PySem.Str.ofString "" ++ Str.join _ (y :: r)) = _
    rw [zl_app, zl_app, zl_e, List.append_nil, ih, List.flatMap_cons, List.flatMap_cons, List.flatMap_cons]
theorem zl_ones (cs : List Nat) : zl (Txt.join (PySem.Str.ofString "") (cs.map one)) = cs := by
  rw [zl_join0]
  induction cs with
  | nil => rfl
  | cons c cs ih => rw [List.map_cons, List.flatMap_cons, ih]; rfl
theorem sum_ones (cs : List Nat) : ((cs.map one).map (·.length)).sum = cs.length := by
  induction cs with
  | nil => rfl
  | cons c cs ih => rw [List.map_cons, List.map_cons, List.sum_cons, ih, List.length_cons]; show 1 + _ = _; omega
/-- the signs, one by one, set together -/
theorem gJoin_ones {cs : List Nat} (h : cs.length ≤ 10000000) : gJoin [.str (PySem.Str.ofString ""), .lst (cs.map fun c => .str (one c))] = some (sO ⟨cs.toArray⟩) := by
  have e : (cs.map fun c => D.str (one c)) = (cs.map one).map D.str := by rw [List.map_map]; rfl
  have z : (PySem.Str.ofString "").length = 0 := by decide +kernel
  rw [e]
  show (strsD ((cs.map one).map D.str)).bind _ = _
  rw [strsD_str]
  show (if ((cs.map one).map (·.length)).sum + (cs.map one).length * (PySem.Str.ofString "").length ≤ 16777216 then _ else _) = _
  rw [sum_ones, z, if_pos (by omega)]
  congr 3
  exact zl_inj (zl_ones cs)
theorem zl_mk (cs : List Nat) : zl ⟨cs.toArray⟩ = cs := rfl
theorem len_mk (cs : List Nat) : Str.length ⟨cs.toArray⟩ = cs.length := rfl
theorem len_app (a b : Str) : (a ++ b).length = a.length + b.length := Str.length_append a b
theorem len_one (c : Nat) : (one c).length = 1 := rfl
theorem len_cut (a : Str) (lo hi : Option Int) : (cutS a lo hi).length ≤ a.length := cutS_length a lo hi
def onI (f : Int → D) : D → D
  | .int r => f r
  | d => d
theorem onI_map (f : Int → D) (rs : List Int) : (rs.map D.int).map (onI f) = rs.map f := by rw [List.map_map]; rfl
/-- the first place where two rows of the same length part -/
theorem lt_at : ∀ {i : Nat} {xs ys : List Nat} {x y : Nat}, xs.take i = ys.take i → xs[i]? = some x → ys[i]? = some y → x ≠ y → (xs < ys ↔ x < y)
  | 0, x' :: xs, y' :: ys, x, y, _, h1, h2, hn => by
    have h1' : x' = x := by simpa using h1
    have h2' : y' = y := by simpa using h2
    subst h1'; subst h2'
    rw [List.cons_lt_cons_iff]
    exact ⟨fun h => h.elim id fun h => absurd h.1 hn, .inl⟩
  | 0, [], _, x, y, _, h1, _, _ => by simp at h1
  | 0, _ :: _, [], x, y, _, _, h2, _ => by simp at h2
  | i + 1, [], _, x, y, _, h1, _, _ => by simp at h1
  | i + 1, _ :: _, [], x, y, _, _, h2, _ => by simp at h2
  | i + 1, x' :: xs, y' :: ys, x, y, h, h1, h2, hn => by
    rw [List.take_succ_cons, List.take_succ_cons] at h
    injection h with ha hb
    subst ha
    rw [List.cons_lt_cons_iff, ← lt_at hb (by simpa using h1) (by simpa using h2) hn]
    exact ⟨fun h => h.elim (fun h => absurd h (Nat.lt_irrefl _)) And.right, fun h => .inr ⟨rfl, h⟩⟩
theorem take_step {α : Type} {xs ys : List α} {i : Nat} {x : α} (h : xs.take i = ys.take i) (h1 : xs[i]? = some x) (h2 : ys[i]? = some x) : xs.take (i + 1) = ys.take (i + 1) := by
  rw [List.take_succ, List.take_succ, h, h1, h2]
theorem atI_cps {z : Str} {i : Int} (h0 : 0 ≤ i) (h1 : i < z.length) : ∃ c, atI z.cps.toList i = some c ∧ (zl z)[i.toNat]? = some c := by
  have h1' : i < (zl z).length := h1
  rw [atI_nat' h0 h1']
  have h2 : i.toNat < (zl z).length := by omega
  exact ⟨_, List.getElem?_eq_getElem h2, List.getElem?_eq_getElem h2⟩
/-- (len, text) by order -/
theorem lt_lenText (a b : Str) (n m : Int) : ordOk (.tup [.int n, .str a]) (.tup [.int m, .str b]) = true ∧ W.dataLt (D.tup [.int n, .str a]).py (D.tup [.int m, .str b]).py = decide (n < m ∨ (n = m ∧ zl a < zl b)) := by
  refine ⟨by simp [ordOk, D.nx, D.nxs, D.py, D.pys, W.alike, W.alikeAll, PyData.depth, PyData.depthAll], ?_⟩
  rw [D.py, D.py, W.dataLt_tuple, D.pys, D.pys, D.pys, D.pys, D.pys, D.py, D.py, D.pys, D.py, D.py]
  by_cases h : n = m
  · subst h
    rw [W.dataLt_all_yes (by simp [W.alike]) (by simp [PyData.eqv])]
    by_cases e : a = b
    · subst e
      rw [W.dataLt_all_yes (by simp [W.alike]) (by simp [PyData.eqv])]
      rw [decide_eq_false (fun h => h.elim (fun h => by omega) fun h => absurd h.2 (List.lt_irrefl _))]
      exact PyProof.Rows.lex_irrefl _
    · rw [W.dataLt_all_no (by simp [W.alike]) (by simp [PyData.eqv, e]), W.dataLt_str]
      simp
  · rw [W.dataLt_all_no (by simp [W.alike]) (by simp [PyData.eqv, h]), W.dataLt_int]
    simp [h]
/-- a comprehension with a test, by what holds of each item: kept or not, and what is made of it -/
theorem lcL_mapE {own : List Nat} {tg : Tg} {t : M Bool} {f : M O} {e : Sl} (h : D → D) (ds : List D) (hl : ds.length < 10000000)
    (hs : ∀ d ∈ ds, ∃ e1, tg.go d e = some e1 ∧ Ev (t e1) (fun b e2 => b = true ∧ Ev (f e2) (fun o e3 => o.d = h d ∧ wipeE e3 own = e) fun _ _ => False) fun _ _ => False) : lcL own tg t f ds [] e = some (ds.map h, e) :=
  lcL_map h ds hl fun d hd => by
    obtain ⟨e1, h1, h2⟩ := hs d hd
    obtain ⟨b, e2, h3, rfl, h4⟩ := h2.get
    obtain ⟨o, e3, h5, h6, h7⟩ := h4.get
    exact ⟨e1, e2, o, e3, h1, h3, h5, h6, h7⟩
theorem lcL_filtE {own : List Nat} {tg : Tg} {t : M Bool} {f : M O} {e : Sl} (p : D → Bool) (h : D → D) : ∀ (ds acc : List D), acc.length + ds.length < 10000000 →
    (∀ d ∈ ds, ∃ e1, tg.go d e = some e1 ∧ Ev (t e1) (fun b e2 => b = p d ∧ if p d = true then Ev (f e2) (fun o e3 => o.d = h d ∧ wipeE e3 own = e) fun _ _ => False else wipeE e2 own = e) fun _ _ => False) → lcL own tg t f ds acc e = some (acc ++ (ds.filter p).map h, e)
  | [], acc, _, _ => by simp [lcL]
  | d :: ds, acc, hl, hs => by
    obtain ⟨e1, h1, h2⟩ := hs d List.mem_cons_self
    obtain ⟨b, e2, h3, rfl, h4⟩ := h2.get
    have hz : acc.length < sizeLine := by rw [sizeLine_eq]; rw [List.length_cons] at hl; omega
    have hs' := fun d' h => hs d' (List.mem_cons_of_mem _ h)
    rw [List.length_cons] at hl
    cases hp : p d with
    | true =>
      rw [hp, if_pos rfl] at h4
      obtain ⟨o, e3, h5, h6, h7⟩ := h4.get
      have ih := lcL_filtE (own := own) (tg := tg) (t := t) (f := f) (e := e) p h ds (acc ++ [o.d]) (by rw [List.length_append]; simp only [List.length_cons, List.length_nil]; omega) hs'
      rw [h6] at ih
      simp [lcL, h1, h3, hp, h5, hz, h7, ih, h6]
    | false =>
      rw [hp, if_neg Bool.noConfusion] at h4
      have ih := lcL_filtE (own := own) (tg := tg) (t := t) (f := f) (e := e) p h ds acc (by omega) hs'
      simp [lcL, h1, h3, hp, h4, ih]
end Dn

namespace Dn
open PySem L2

/-! ## 26. The operations, case by case -/
section
variable {i j : Int} {a b z : Str} {p q : Bool} {ds es : List D} {ns : List Int} {d x y : D}
theorem gAdd_i : gAdd [.int i, .int j] = some (iO (i + j)) := nr rfl
theorem gAdd_z (h : a.length + b.length ≤ sizeLine) : gAdd [.str a, .str b] = some (sO (a ++ b)) := if_pos h
theorem gAdd_l (h : ds.length + es.length ≤ sizeLine) : gAdd [.lst ds, .lst es] = some (.lst (ds ++ es)) := if_pos h
theorem gAdd_t (h : ds.length + es.length ≤ sizeLine) : gAdd [.tup ds, .tup es] = some (.fr (.tup (ds ++ es))) := if_pos h
theorem gAddI_i : gAddI [.int i, .int j] = some (iO (i + j)) := nr rfl
theorem gSub_i : Dn.gSub [.int i, .int j] = some (iO (i - j)) := nr rfl
theorem gMul_i (h : mulOk i j = true) : gMul [.int i, .int j] = some (iO (i * j)) := if_pos h
theorem gDiv_i (h : j ≠ 0) (h' : j.natAbs < 1073741824) : gDiv [.int i, .int j] = some (iO (i.fdiv j)) := if_pos ⟨h, h'⟩
theorem gMod_i (h : j ≠ 0) : gMod [.int i, .int j] = some (iO (i.fmod j)) := if_pos h
theorem gPow_i (h : 0 ≤ j ∧ j ≤ 1000000 ∧ i.natAbs < 2 ^ 64) : gPow [.int i, .int j] = some (iO (i ^ j.toNat)) := if_pos h
theorem gNeg_i : gNeg [.int i] = some (iO (-i)) := nr rfl
theorem gEq_i : gEq [.int i, .int j] = some (bO (decide (i = j))) := nr rfl
theorem gEq_z : gEq [.str a, .str b] = some (bO (decide (a = b))) := nr rfl
theorem gEq_b : gEq [.bl p, .bl q] = some (bO (decide (p = q))) := nr rfl
theorem gNe_i : gNe [.int i, .int j] = some (bO (!decide (i = j))) := nr rfl
theorem gNe_z : gNe [.str a, .str b] = some (bO (!decide (a = b))) := nr rfl
theorem gNe_b : gNe [.bl p, .bl q] = some (bO (!decide (p = q))) := nr rfl
theorem gEq_l (h : shp (.lst ds) = true) (h' : shp y = true) : gEq [.lst ds, y] = some (bO (D.eqv (.lst ds) y)) := if_pos (by rw [h, h']; rfl)
theorem gEq_t (h : shp (.tup ds) = true) (h' : shp y = true) : gEq [.tup ds, y] = some (bO (D.eqv (.tup ds) y)) := if_pos (by rw [h, h']; rfl)
theorem gEq_s (h : shp (.scr ns) = true) (h' : shp y = true) : gEq [.scr ns, y] = some (bO (D.eqv (.scr ns) y)) := if_pos (by rw [h, h']; rfl)
theorem gEq_n (h' : shp y = true) : gEq [.non, y] = some (bO (D.eqv .non y)) := if_pos (by rw [h']; rfl)
theorem gNe_l (h : shp (.lst ds) = true) (h' : shp y = true) : gNe [.lst ds, y] = some (bO (!D.eqv (.lst ds) y)) := if_pos (by rw [h, h']; rfl)
theorem gNe_t (h : shp (.tup ds) = true) (h' : shp y = true) : gNe [.tup ds, y] = some (bO (!D.eqv (.tup ds) y)) := if_pos (by rw [h, h']; rfl)
theorem gNe_s (h : shp (.scr ns) = true) (h' : shp y = true) : gNe [.scr ns, y] = some (bO (!D.eqv (.scr ns) y)) := if_pos (by rw [h, h']; rfl)
theorem gNe_n (h' : shp y = true) : gNe [.non, y] = some (bO (!D.eqv .non y)) := if_pos (by rw [h']; rfl)
theorem gLt_i : gLt [.int i, .int j] = some (bO (decide (i < j))) := nr rfl
theorem gGt_i : gGt [.int i, .int j] = some (bO (decide (j < i))) := nr rfl
theorem gLe_i : gLe [.int i, .int j] = some (bO (decide (i ≤ j))) := nr rfl
theorem gGe_i : gGe [.int i, .int j] = some (bO (decide (j ≤ i))) := nr rfl
theorem gLt_t (h : ordOk (.tup ds) y = true) : gLt [.tup ds, y] = some (bO (W.dataLt (D.tup ds).py y.py)) := if_pos h
theorem gGt_t (h : ordOk (.tup ds) y = true) : gGt [.tup ds, y] = some (bO (W.dataLt y.py (D.tup ds).py)) := if_pos h
theorem gLe_t (h : ordOk (.tup ds) y = true) : gLe [.tup ds, y] = some (bO (!W.dataLt y.py (D.tup ds).py)) := if_pos h
theorem gGe_t (h : ordOk (.tup ds) y = true) : gGe [.tup ds, y] = some (bO (!W.dataLt (D.tup ds).py y.py)) := if_pos h
theorem gLt_l (h : ordOk (.lst ds) y = true) : gLt [.lst ds, y] = some (bO (W.dataLt (D.lst ds).py y.py)) := if_pos h
theorem gGt_l (h : ordOk (.lst ds) y = true) : gGt [.lst ds, y] = some (bO (W.dataLt y.py (D.lst ds).py)) := if_pos h
theorem gLe_l (h : ordOk (.lst ds) y = true) : gLe [.lst ds, y] = some (bO (!W.dataLt y.py (D.lst ds).py)) := if_pos h
theorem gGe_l (h : ordOk (.lst ds) y = true) : gGe [.lst ds, y] = some (bO (!W.dataLt (D.lst ds).py y.py)) := if_pos h
theorem ord_z : ordOk (.str a) (.str b) = true := by simp [ordOk, D.nx, D.py, W.alike, PyData.depth]
theorem gLt_z : gLt [.str a, .str b] = some (bO (decide (zl a < zl b))) := by
  show (if ordOk (.str a) (.str b) = true then some (bO (W.dataLt (D.str a).py (D.str b).py)) else none) = _
  rw [if_pos ord_z, D.py, D.py, W.dataLt_str]
theorem gGt_z : gGt [.str a, .str b] = some (bO (decide (zl b < zl a))) := by
  show (if ordOk (.str a) (.str b) = true then some (bO (W.dataLt (D.str b).py (D.str a).py)) else none) = _
  rw [if_pos ord_z, D.py, D.py, W.dataLt_str]
theorem gLe_z : gLe [.str a, .str b] = some (bO (!decide (zl b < zl a))) := by
  show (if ordOk (.str a) (.str b) = true then some (bO (!W.dataLt (D.str b).py (D.str a).py)) else none) = _
  rw [if_pos ord_z, D.py, D.py, W.dataLt_str]
theorem gGe_z : gGe [.str a, .str b] = some (bO (!decide (zl a < zl b))) := by
  show (if ordOk (.str a) (.str b) = true then some (bO (!W.dataLt (D.str a).py (D.str b).py)) else none) = _
  rw [if_pos ord_z, D.py, D.py, W.dataLt_str]
theorem gIsN_n : gIsN [.non, .non] = some (bO true) := nr rfl
theorem gIsN_b : gIsN [.bl p, .non] = some (bO false) := nr rfl
theorem gIsN_i : gIsN [.int i, .non] = some (bO false) := nr rfl
theorem gIsN_z : gIsN [.str a, .non] = some (bO false) := nr rfl
theorem gIsN_l : gIsN [.lst ds, .non] = some (bO false) := nr rfl
theorem gIsN_t : gIsN [.tup ds, .non] = some (bO false) := nr rfl
theorem gIsN_s : gIsN [.scr ns, .non] = some (bO false) := nr rfl
theorem gIsN_bb : gIsN [.bl p, .bl q] = some (bO (decide (p = q))) := nr rfl
theorem gNotN_n : gNotN [.non, .non] = some (bO false) := nr rfl
theorem gNotN_b : gNotN [.bl p, .non] = some (bO true) := nr rfl
theorem gNotN_i : gNotN [.int i, .non] = some (bO true) := nr rfl
theorem gNotN_z : gNotN [.str a, .non] = some (bO true) := nr rfl
theorem gNotN_l : gNotN [.lst ds, .non] = some (bO true) := nr rfl
theorem gNotN_t : gNotN [.tup ds, .non] = some (bO true) := nr rfl
theorem gNotN_s : gNotN [.scr ns, .non] = some (bO true) := nr rfl
theorem gNotN_bb : gNotN [.bl p, .bl q] = some (bO (!decide (p = q))) := nr rfl
theorem gIn_z : gIn [.str a, .str b] = some (bO (inStr a b)) := nr rfl
theorem gIn_l (h : shp x = true) (h' : shp (.lst ds) = true) : gIn [x, .lst ds] = some (bO (inL x ds)) := by
  have : (if (shp x && shp (.lst ds)) = true then some (bO (inL x ds)) else none) = some (bO (inL x ds)) := if_pos (by rw [h, h']; rfl)
  cases x <;> exact this
theorem gIn_t (h : shp x = true) (h' : shp (.tup ds) = true) : gIn [x, .tup ds] = some (bO (inL x ds)) := by
  have : (if (shp x && shp (.tup ds)) = true then some (bO (inL x ds)) else none) = some (bO (inL x ds)) := if_pos (by rw [h, h']; rfl)
  cases x <;> exact this
theorem gNotIn_z : gNotIn [.str a, .str b] = some (bO (!inStr a b)) := nr rfl
theorem gNotIn_l (h : shp x = true) (h' : shp (.lst ds) = true) : gNotIn [x, .lst ds] = some (bO (!inL x ds)) := by
  have : (if (shp x && shp (.lst ds)) = true then some (bO (!inL x ds)) else none) = some (bO (!inL x ds)) := if_pos (by rw [h, h']; rfl)
  cases x <;> exact this
theorem gNotIn_t (h : shp x = true) (h' : shp (.tup ds) = true) : gNotIn [x, .tup ds] = some (bO (!inL x ds)) := by
  have : (if (shp x && shp (.tup ds)) = true then some (bO (!inL x ds)) else none) = some (bO (!inL x ds)) := if_pos (by rw [h, h']; rfl)
  cases x <;> exact this
theorem gIx_l : gIx [.lst ds, .int i] = (atI ds i).map .fr := nr rfl
theorem gIx_t : gIx [.tup ds, .int i] = (atI ds i).map .fr := nr rfl
theorem gIx_s : gIx [.scr ns, .int i] = (atI ns i).map iO := nr rfl
theorem gIx_z (h : z.length ≤ sizeLine) : gIx [.str z, .int i] = (atI z.cps.toList i).map fun c => sO (one c) := if_pos h
theorem gLen_l : gLen [.lst ds] = some (iO ds.length) := nr rfl
theorem gLen_t : gLen [.tup ds] = some (iO ds.length) := nr rfl
theorem gLen_s : gLen [.scr ns] = some (iO ns.length) := nr rfl
theorem gLen_z (h : z.length ≤ sizeLine) : gLen [.str z] = some (iO z.length) := if_pos h
theorem gInt_i : gInt [.int i] = some (iO i) := nr rfl
theorem gInt_b : gInt [.bl p] = some (iO (if p then 1 else 0)) := nr rfl
theorem gAbs_i : gAbs [.int i] = some (iO (if i < 0 then -i else i)) := nr rfl
theorem gOrd_1 {c : Nat} : gOrd [.str (one c)] = some (iO (c : Int)) := nr rfl
theorem gList_l : gList [.lst ds] = some (.lst ds) := nr rfl
theorem gList_t : gList [.tup ds] = some (.lst ds) := nr rfl
theorem gList_s : gList [.scr ns] = some (.lst (ns.map .int)) := nr rfl
theorem gTuple_l : gTuple [.lst ds] = some (.fr (.tup ds)) := nr rfl
theorem gTuple_t : gTuple [.tup ds] = some (.fr (.tup ds)) := nr rfl
theorem gApp_q (h : ds.length < sizeLine) : gApp ds d = some (.non, ds ++ [d]) := if_pos h
theorem gPop_q : gPop ds = (ds[ds.length - 1]?).map fun y => (y, ds.dropLast) := nr rfl
theorem gPop0_q (h : -(2 ^ 63) ≤ i ∧ i < 2 ^ 63) : gPop0 ds (.int i) = (ixN ds.length i).bind fun k => (ds[k]?).map fun y => (y, ds.eraseIdx k) := if_pos h
theorem gExt_q (h : ds.length + es.length ≤ sizeLine) : gExt ds (.lst es) = some (.non, ds ++ es) := if_pos h
theorem gRev_q : gRev ds = some (.non, ds.reverse) := nr rfl
theorem gIsi_q {T : String} : gIsi T [d] = (isi T d).map bO := nr rfl
theorem gSl00 : gSl false false [d] = slD d none none := nr rfl
theorem gSl10 : gSl true false [d, .int i] = slD d (some i) none := nr rfl
theorem gSl01 : gSl false true [d, .int j] = slD d none (some j) := nr rfl
theorem gSl11 : gSl true true [d, .int i, .int j] = slD d (some i) (some j) := nr rfl
theorem slD_l {lo hi : Option Int} : slD (.lst ds) lo hi = some (.lst (cutD ds lo hi)) := nr rfl
theorem slD_t {lo hi : Option Int} : slD (.tup ds) lo hi = some (.fr (.tup (cutD ds lo hi))) := nr rfl
theorem slD_s {lo hi : Option Int} : slD (.scr ns) lo hi = some (.lst ((cutD ns lo hi).map .int)) := nr rfl
theorem slD_z {lo hi : Option Int} (h : z.length ≤ sizeLine) : slD (.str z) lo hi = some (sO (cutS z lo hi)) := if_pos h
theorem gRevS_l : gRevS [.lst ds] = some (.lst ds.reverse) := nr rfl
theorem gCount_z : gCount [.str a, .str b] = some (iO (Txt.count a b)) := nr rfl
theorem gStarts_z : gStarts [.str a, .str b] = some (bO (Txt.startswith a b)) := nr rfl
theorem gRstrip_z (h : a.length ≤ sizeLine) : gRstrip [.str a, .str b] = some (sO (Txt.rstripChars a b)) := if_pos h
theorem seqD_l : seqD (.lst ds) = some ds := nr rfl
theorem seqD_t : seqD (.tup ds) = some ds := nr rfl
theorem seqD_s : seqD (.scr ns) = some (ns.map .int) := nr rfl
theorem seqD_z : seqD (.str z) = some (signs z) := nr rfl
def rgR1 (ds : List D) (e : Sl) : Option (Ro (List D)) := match ds with
    | [.int j] => if inR j = true then some (.ok (rngD 0 j) e) else none
    | _ => none
def rgR2 (ds : List D) (e : Sl) : Option (Ro (List D)) := match ds with
    | [.int i, .int j] => if (inR i && inR j) = true then some (.ok (rngD i j) e) else none
    | _ => none
theorem sRng1_e (p : P) (e : Sl) : sRng1 p e = @thn' _ _ (ops [p] e) ⟨fun ds e' => rgR1 ds e'⟩ := nr rfl
theorem sRng2_e (p q : P) (e : Sl) : sRng2 p q e = @thn' _ _ (ops [p, q] e) ⟨fun ds e' => rgR2 ds e'⟩ := nr rfl
theorem rgR1_q {e : Sl} (h : inR j = true) : rgR1 [.int j] e = some (.ok (rngD 0 j) e) := if_pos h
theorem rgR2_q {e : Sl} (h : inR i = true) (h' : inR j = true) : rgR2 [.int i, .int j] e = some (.ok (rngD i j) e) := if_pos (by rw [h, h']; rfl)
theorem inR_len {α : Type} {l : List α} (h : l.length ≤ 10000000) : inR (l.length : Int) = true := by unfold inR; exact decide_eq_true ⟨by omega, by omega⟩
theorem rng0_get {hi : Int} {i : Nat} {d : D} (h : (rngD 0 hi)[i]? = some d) : d = .int i ∧ (i : Int) < hi := by
  obtain ⟨h1, h2⟩ := rngD_get h
  rw [Int.zero_add] at h1
  exact ⟨h1, by omega⟩
theorem rng0_len {n : Nat} : (rngD 0 (n : Int)).length = n := by rw [rngD_len]; omega
/-- short texts: the library's limit, told as a limit of ours -/
theorem sz_of (h : z.length ≤ 10000000) : z.length ≤ sizeLine := by rw [sl_val]; omega
theorem sz_lit {c : Nat} : (one c).length ≤ sizeLine := by rw [sl_val]; show 1 ≤ 16777216; omega
theorem sz2_of (h : a.length + b.length ≤ 10000000) : a.length + b.length ≤ sizeLine := by rw [sl_val]; omega
theorem szl_of (h : ds.length + es.length ≤ 10000000) : ds.length + es.length ≤ sizeLine := by rw [sl_val]; omega
theorem szl1_of' {n : Nat} (h : n < 10000000) : n < sizeLine := by rw [sl_val]; omega
theorem szl1_of (h : ds.length < 10000000) : ds.length < sizeLine := by rw [sl_val]; omega
end
end Dn

namespace Dn
open PySem L2

/-! ## 27. Loops by what is done -/
/-- a for: I of the part that is done -/
theorem Ev_forP {α : Type} {f : α → D} {tg : Tg} {body : M Fl} {X : Exn → Sl → Prop} (I : List α → Sl → Prop) (Q : Fl → Sl → Prop) : ∀ (xs done : List α) (e : Sl), I done e →
    (∀ (pre : List α) (x : α) (post : List α) (e : Sl), done ++ xs = pre ++ x :: post → I pre e → ∃ e1, tg.go (f x) e = some e1 ∧ Ev (body e1) (fun fl e2 => match fl with
      | .next => I (pre ++ [x]) e2
      | .cnt => I (pre ++ [x]) e2
      | .brk => Q .next e2
      | .ret o => Q (.ret o) e2) X) → (∀ e, I (done ++ xs) e → Q .next e) →
    Ev (forL tg body (xs.map f) e) Q X
  | [], done, e, h0, _, hq => hq e (by rw [List.append_nil]; exact h0)
  | x :: xs, done, e, h0, hs, hq => by
    obtain ⟨e1, h1, h2⟩ := hs done x xs e rfl h0
    unfold Ev EvC at h2
    rw [List.map_cons]
    unfold forL
    rw [h1]
    dsimp only
    have e3 : done ++ [x] ++ xs = done ++ x :: xs := by rw [List.append_assoc]; rfl
    cases h3 : body e1 with
    | none => rw [h3] at h2; exact h2.elim
    | some r =>
      rw [h3] at h2
      cases r with
      | ex x e2 => exact h2
      | ok fl e2 =>
        cases fl with
        | next => exact Ev_forP I Q xs (done ++ [x]) e2 h2 (fun pre y post e he => hs pre y post e (by rw [← e3]; exact he)) (fun e he => hq e (by rw [← e3]; exact he))
        | cnt => exact Ev_forP I Q xs (done ++ [x]) e2 h2 (fun pre y post e he => hs pre y post e (by rw [← e3]; exact he)) (fun e he => hq e (by rw [← e3]; exact he))
        | brk => exact h2
        | ret o => exact h2
/-- over the signs of a text -/
theorem signs_map (z : Str) : signs z = (zl z).map fun c => D.str (one c) := rfl
theorem Ev_forZ {z : Str} {tg : Tg} {body : M Fl} {X : Exn → Sl → Prop} {e : Sl} (I : List Nat → Sl → Prop) (Q : Fl → Sl → Prop) (h0 : I [] e)
    (hs : ∀ (pre : List Nat) (c : Nat) (post : List Nat) (e : Sl), zl z = pre ++ c :: post → I pre e → ∃ e1, tg.go (.str (one c)) e = some e1 ∧ Ev (body e1) (fun fl e2 => match fl with
      | .next => I (pre ++ [c]) e2
      | .cnt => I (pre ++ [c]) e2
      | .brk => Q .next e2
      | .ret o => Q (.ret o) e2) X) (hq : ∀ e, I (zl z) e → Q .next e) : Ev (forL tg body (signs z) e) Q X :=
  Ev_forP (f := fun c => D.str (one c)) I Q (zl z) [] e h0 (fun pre x post e he => hs pre x post e he) hq
theorem mem_mid {α : Type} {pre post xs : List α} {x : α} (h : xs = pre ++ x :: post) : x ∈ xs := by rw [h]; exact List.mem_append_right _ List.mem_cons_self
/-- a remainder as both languages have it -/
theorem fm_bd {x m : Int} (h : 0 < m) : 0 ≤ x.fmod m ∧ x.fmod m < m := by rw [fmod_pos h]; exact ⟨mod_ge h, mod_lt h⟩
end Dn

namespace Dn
open PySem L2

/-! ## 28. Data side by side -/
/-- data no deeper than k that the library can lay side by side -/
def Shp (k : Nat) (d : D) : Prop := d.py.canLay0 = true ∧ d.py.depth ≤ k
theorem Shp.shp {k : Nat} {d : D} (h : Shp k d) (hk : k ≤ 64) : shp d = true := by
  unfold Dn.shp SeqAt.shaped
  rw [h.1, decide_eq_true (Nat.le_trans h.2 hk)]; rfl
theorem Shp.mono {k j : Nat} {d : D} (h : Shp k d) (hk : k ≤ j) : Shp j d := ⟨h.1, Nat.le_trans h.2 hk⟩
theorem shp_non : Shp 0 .non := ⟨by rw [D.py]; simp [PyData.canLay0], by rw [D.py]; simp [PyData.depth]⟩
theorem shp_bl (b : Bool) : Shp 0 (.bl b) := ⟨by rw [D.py]; simp [PyData.canLay0], by rw [D.py]; simp [PyData.depth]⟩
theorem shp_int (i : Int) : Shp 0 (.int i) := ⟨by rw [D.py]; simp [PyData.canLay0], by rw [D.py]; simp [PyData.depth]⟩
theorem Shps {k : Nat} : ∀ {ds : List D}, (∀ d ∈ ds, Shp k d) → PyData.canLayAll0 (D.pys ds) = true ∧ PyData.depthAll (D.pys ds) ≤ k
  | [], _ => by rw [D.pys]; simp [PyData.canLayAll0, PyData.depthAll]
  | d :: ds, h => by
    have h1 := h d List.mem_cons_self
    have h2 := Shps fun d' hd => h d' (List.mem_cons_of_mem _ hd)
    rw [D.pys, PyData.canLayAll0, PyData.depthAll, h1.1, h2.1]
    exact ⟨rfl, Nat.max_le.mpr ⟨h1.2, h2.2⟩⟩
theorem shp_lst {k : Nat} {ds : List D} (h : ∀ d ∈ ds, Shp k d) : Shp (k + 1) (.lst ds) := by
  have := Shps h
  refine ⟨by rw [D.py, PyData.canLay0]; exact this.1, by rw [D.py, PyData.depth]; exact Nat.succ_le_succ this.2⟩
theorem shp_tup {k : Nat} {ds : List D} (h : ∀ d ∈ ds, Shp k d) : Shp (k + 1) (.tup ds) := by
  have := Shps h
  refine ⟨by rw [D.py, PyData.canLay0]; exact this.1, by rw [D.py, PyData.depth]; exact Nat.succ_le_succ this.2⟩
theorem shp_str {z : Str} (h : ∀ c ∈ zl z, c < 1114112) : Shp 0 (.str z) := by
  refine ⟨?_, by rw [D.py]; simp [PyData.depth]⟩
  rw [D.py, PyData.canLay0]
  show z.cps.all (· < 0x110000) = true
  rw [← Array.all_toList]
  exact List.all_eq_true.mpr fun c hc => decide_eq_true (h c hc)
theorem eqv_i (i j : Int) : D.eqv (.int i) (.int j) = decide (i = j) := by
  unfold D.eqv; rw [D.py, D.py, PyData.eqv]
  by_cases h : i = j <;> simp [h]
theorem eqv_z (a b : Str) : D.eqv (.str a) (.str b) = decide (a = b) := by
  unfold D.eqv; rw [D.py, D.py, PyData.eqv]
  by_cases h : a = b <;> simp [h]
theorem eqv_nn : D.eqv .non .non = true := by
  unfold D.eqv; rw [D.py]; simp [PyData.eqv]
/-- whole numbers from nought on, as data -/
def nl (ks : List Nat) : List D := ks.map fun (k : Nat) => D.int (k : Int)
theorem nl_app (a b : List Nat) : nl (a ++ b) = nl a ++ nl b := List.map_append
theorem nl_len (a : List Nat) : (nl a).length = a.length := List.length_map _
theorem shp_nl (ks : List Nat) : ∀ d ∈ nl ks, Shp 0 d := fun d hd => by
  obtain ⟨k, _, rfl⟩ := List.mem_map.mp hd
  exact shp_int _
theorem shp_nl_l (ks : List Nat) : shp (.lst (nl ks)) = true := (shp_lst (shp_nl ks)).shp (by omega)
theorem shp_nl_t (ks : List Nat) : shp (.tup (nl ks)) = true := (shp_tup (shp_nl ks)).shp (by omega)
theorem shp_i (i : Int) : shp (.int i) = true := (shp_int i).shp (by omega)
theorem inL_nl (i : Int) (ks : List Nat) : inL (.int i) (nl ks) = decide (∃ k ∈ ks, (k : Int) = i) := by
  unfold inL nl
  rw [List.any_map]
  by_cases h : ∃ k ∈ ks, (k : Int) = i
  · rw [decide_eq_true h]
    obtain ⟨k, hk, e⟩ := h
    exact List.any_eq_true.mpr ⟨k, hk, by show D.eqv _ _ = true; rw [eqv_i]; exact decide_eq_true e⟩
  · rw [decide_eq_false h]
    refine List.any_eq_false.mpr fun k hk => ?_
    show ¬ D.eqv _ _ = true
    rw [eqv_i]
    simp only [decide_eq_true_eq]
    exact fun e => h ⟨k, hk, e⟩
theorem inL_nat (n : Nat) (ks : List Nat) : inL (.int (n : Int)) (nl ks) = decide (n ∈ ks) := by
  rw [inL_nl]
  by_cases h : n ∈ ks
  · rw [decide_eq_true h, decide_eq_true ⟨n, h, rfl⟩]
  · rw [decide_eq_false h, decide_eq_false]
    rintro ⟨k, hk, e⟩
    have : k = n := by omega
    exact h (this ▸ hk)
mutual
def D.pl : D → Bool
  | .non => true
  | .bl _ => false
  | .int _ => true
  | .str _ => true
  | .lst xs => D.pls xs
  | .tup xs => D.pls xs
  | .scr _ => false
  | .opq => false
  | .dct _ _ => false
  | .ins _ _ _ => false
def D.pls : List D → Bool
  | [] => true
  | x :: xs => D.pl x && D.pls xs
end
mutual
theorem D.eqv_same : ∀ {a b : D}, a.pl = true → b.pl = true → (D.eqv a b = true ↔ a = b)
  | .non, b, _, hb => by
    cases b <;> first | (exact absurd hb Bool.noConfusion) | (unfold D.eqv; rw [D.py]; rw [D.py]; simp [PyData.eqv]) | (unfold D.eqv; rw [D.py]; simp [PyData.eqv])
  | .int i, b, _, hb => by
    cases b <;> first | (exact absurd hb Bool.noConfusion) | (unfold D.eqv; rw [D.py]; rw [D.py]; simp [PyData.eqv])
  | .str i, b, _, hb => by
    cases b <;> first | (exact absurd hb Bool.noConfusion) | (unfold D.eqv; rw [D.py]; rw [D.py]; simp [PyData.eqv])
  | .lst xs, b, ha, hb => by
    cases b with
    | bl _ => exact absurd hb Bool.noConfusion
    | scr _ => exact absurd hb Bool.noConfusion
    | opq => exact absurd hb Bool.noConfusion
    | dct _ _ => exact absurd hb Bool.noConfusion
    | ins _ _ _ => exact absurd hb Bool.noConfusion
    | lst ys =>
      unfold D.eqv; rw [D.py, D.py, PyData.eqv]
      rw [D.eqvs_same (show D.pls xs = true by rw [D.pl] at ha; exact ha) (show D.pls ys = true by rw [D.pl] at hb; exact hb)]
      simp
    | _ => unfold D.eqv; rw [D.py]; rw [D.py]; simp [PyData.eqv]
  | .tup xs, b, ha, hb => by
    cases b with
    | bl _ => exact absurd hb Bool.noConfusion
    | scr _ => exact absurd hb Bool.noConfusion
    | opq => exact absurd hb Bool.noConfusion
    | dct _ _ => exact absurd hb Bool.noConfusion
    | ins _ _ _ => exact absurd hb Bool.noConfusion
    | tup ys =>
      unfold D.eqv; rw [D.py, D.py, PyData.eqv]
      rw [D.eqvs_same (show D.pls xs = true by rw [D.pl] at ha; exact ha) (show D.pls ys = true by rw [D.pl] at hb; exact hb)]
      simp
    | _ => unfold D.eqv; rw [D.py]; rw [D.py]; simp [PyData.eqv]
  | .bl _, _, ha, _ => absurd ha Bool.noConfusion
  | .scr _, _, ha, _ => absurd ha Bool.noConfusion
  | .opq, _, ha, _ => absurd ha Bool.noConfusion
  | .dct _ _, _, ha, _ => absurd ha Bool.noConfusion
  | .ins _ _ _, _, ha, _ => absurd ha Bool.noConfusion
theorem D.eqvs_same : ∀ {as bs : List D}, D.pls as = true → D.pls bs = true → (PyData.eqvAll (D.pys as) (D.pys bs) = true ↔ as = bs)
  | [], [], _, _ => by rw [D.pys]; simp [PyData.eqvAll]
  | [], b :: bs, _, _ => by rw [D.pys, D.pys]; simp [PyData.eqvAll]
  | a :: as, [], _, _ => by rw [D.pys, D.pys]; simp [PyData.eqvAll]
  | a :: as, b :: bs, ha, hb => by
    rw [D.pls, Bool.and_eq_true] at ha hb
    rw [D.pys, D.pys, PyData.eqvAll, Bool.and_eq_true, List.cons.injEq]
    exact and_congr (D.eqv_same ha.1 hb.1) (D.eqvs_same ha.2 hb.2)
end
theorem D.pls_of {ds : List D} (h : ∀ d ∈ ds, d.pl = true) : D.pls ds = true := by
  induction ds with
  | nil => rw [D.pls]
  | cons d ds ih => rw [D.pls, h d List.mem_cons_self, ih fun x hx => h x (List.mem_cons_of_mem _ hx)]; rfl
theorem inL_pl {x : D} {ds : List D} (hx : x.pl = true) (hs : ∀ d ∈ ds, d.pl = true) : inL x ds = true ↔ x ∈ ds := by
  unfold inL
  rw [List.any_eq_true]
  exact ⟨fun ⟨y, hy, e⟩ => (D.eqv_same (hs y hy) hx).mp e ▸ hy, fun h => ⟨x, h, (D.eqv_same hx hx).mpr rfl⟩⟩
theorem inL_no {x : D} {ds : List D} (hx : x.pl = true) (hs : ∀ d ∈ ds, d.pl = true) (h : x ∉ ds) : inL x ds = false := Bool.eq_false_iff.mpr fun z => h ((inL_pl hx hs).mp z)
end Dn

namespace Dn
open PySem L2
open Evl (Ex)

/-! ## 29. A text times a number -/
def gMulS : List D → Option O
  | [.str a, .int n] => if 0 ≤ n ∧ n ≤ 100000 ∧ a.length ≤ 100 then some (sO (Txt.mul a n)) else none
  | _ => none
def rMulS : R2 := fun x y H Q => ∃ a n, x = .str a ∧ y = .int n ∧ MulOk a n ∧ Q (.str (Txt.mul a n)) H
theorem o_mulS {X : Cx} : OpR X (binaryOp .Mult) rMulS := by
  intro pins s σ H x y v u Q I rx ry h
  obtain ⟨i, j, rfl, rfl, hz, q⟩ := h
  obtain ⟨t, rfl⟩ := rx
  obtain ⟨t', rfl⟩ := ry
  exact SB.mul hz (fun t' k => ⟨.str (Txt.mul i j), H, I.tok _, ⟨_, rfl⟩, q⟩)
theorem mulS_ok {a : Str} {n : Int} (h0 : 0 ≤ n) (h1 : n ≤ 100000) (h2 : a.length ≤ 100) : MulOk a n := by
  refine ⟨?_, fun hn _ => ?_, fun _ _ => ?_⟩
  · rw [decide_eq_false (by omega), decide_eq_false (by omega)]; rfl
  · have : (100 : Int) ≤ (2 ^ 63 - 1) / n := (Int.le_ediv_iff_mul_le (by omega)).mpr (by omega)
    omega
  · show decide (a.length * n.toNat > sizeLine) = false
    rw [sl_val]
    refine decide_eq_false ?_
    have h3 : n.toNat ≤ 100000 := by omega
    have := Nat.mul_le_mul h2 h3
    omega
theorem n_mulS {K : PySem.W.Frag} : Snd2 K rMulS gMulS := fun B H x y a b o hx ha hb hg Q q => by
  cases a <;> cases b <;> simp only [gMulS] at hg <;> (try cases hg)
  split at hg
  · rename_i hc
    cases hg; cases ha; cases hb
    exact ⟨_, _, rfl, rfl, mulS_ok hc.1 hc.2.1 hc.2.2, q.fr hx (.str _)⟩
  · cases hg
theorem gMulS_q {a : Str} {n : Int} (h : 0 ≤ n ∧ n ≤ 100000 ∧ a.length ≤ 100) : gMulS [.str a, .int n] = some (sO (Txt.mul a n)) := if_pos h
theorem zl_mul1 (c : Nat) (n : Int) : zl (Txt.mul (one c) n) = List.replicate n.toNat c := PyProof.Rows.mul_one_list c n
theorem len_mul1 (c : Nat) (n : Int) : (Txt.mul (one c) n).length = n.toNat := by rw [len_zl, zl_mul1, List.length_replicate]
end Dn


/-! ## 30. Order that looks at the first difference alone -/
namespace Dn.Fd
open PySem PySem.SeqAt
open PySem.AutoSeq1 (wpAny_loadPart')
open PySem.MeetsSeq PySem.MeetsSeq2 PySem.MeetsSeq3
open PySem.SeqRoads2

/-- what is known of two rows: whether each pair is equal, and at the first pair that is not, how it compares -/
structure Pairs (A : Around) (s : Shared) (p q : Array Value) (eq lt : Nat → Bool) : Prop where
  same : ∀ k (kp : k < p.size) (kq : k < q.size), EqAt A s p[k] q[k] (eq k)
  less : ∀ k (kp : k < p.size) (kq : k < q.size), (∀ m, m < k → eq m = true) → eq k = false → RcLt A s p[k] q[k] (lt k)
/-- the answer from place k on -/
def ansAt (eq lt : Nat → Bool) (z : Bool) : Nat → Nat → Bool
  | _, 0 => z
  | k, left + 1 => if eq k = true then ansAt eq lt z (k + 1) left else lt k
theorem tupMeets (u v : Addr) (p q : Array Value) (c c2 : Nat) (e1 e2 : Option Addr) (o1 o2 : Array (Option Value)) (eq lt : Nat → Bool) :
    Meets (Builtin.«tuple.__lt__» ⟨[.ref u, .ref v], []⟩) (fun A R s =>
      s.heap.get? u = some ⟨.type "tuple", e1, .seq p c, o1⟩ ∧ s.heap.get? v = some ⟨.type "tuple", e2, .seq q c2, o2⟩ ∧ Pairs A.in1 s p q eq lt ∧
      R (.ok (.ret (.bool (ansAt eq lt (decide (p.size < q.size)) 0 (min p.size q.size))))) s) := .of_wp fun prog w A R s given => by
  obtain ⟨hp, g, d, tk, os⟩ := s
  obtain ⟨gu, gv, pr, fin⟩ := given
  have sub := AutoSeq1.sub_tuple_tuple
  have zl : (p.toList.zip q.toList).length = min p.size q.size := by simp
  wp_walk using wpAny_loadPart' gu, wpAny_loadPart' gv, wpAny_forIn_list _ (fun todo acc s' => acc.1 = none ∧ s' = ⟨hp, g, d, tk, os⟩ ∧ ∃ k, todo = (p.toList.zip q.toList).drop k ∧ (∀ m, m < k → eq m = true) ∧
    R (.ok (.ret (.bool (ansAt eq lt (decide (p.size < q.size)) k (min p.size q.size - k))))) ⟨hp, g, d, tk, os⟩) _
  case turn =>
    rintro ⟨a, b⟩ todo acc s' ⟨ha, rfl, k, hk, before, an⟩
    have kl : k < (p.toList.zip q.toList).length := Nat.lt_of_not_le fun h => by rw [List.drop_of_length_le h] at hk; cases hk
    have km : k < min p.size q.size := zl ▸ kl
    have kp : k < p.size := by omega
    have kq : k < q.size := by omega
    rw [List.drop_eq_getElem_cons kl] at hk
    injection hk with hd tl
    obtain ⟨rfl, rfl⟩ : a = p[k] ∧ b = q[k] := by
      constructor
      · simpa using congrArg Prod.fst hd
      · simpa using congrArg Prod.snd hd
    rw [show min p.size q.size - k = (min p.size q.size - (k + 1)) + 1 by omega, ansAt] at an
    refine wpAny_bind (pr.same k kp kq prog w _ _ ?_)
    cases h : eq k with
    | true =>
      rw [h, if_pos rfl] at an
      have before2 : ∀ m, m < k + 1 → eq m = true := fun m hm => (Nat.lt_succ_iff_lt_or_eq.mp hm).elim (before m) fun e => e ▸ h
      wp_walk
      exact ⟨rfl, rfl, k + 1, tl, before2, an⟩
    | false =>
      rw [h, if_neg Bool.false_ne_true] at an
      have now := pr.less k kp kq before h prog w
      wp_walk using now
      exact ⟨_, rfl, by simpa using an⟩
  case fin =>
    rintro ⟨a, b⟩ s' ⟨ha, rfl, k, hk, before, an⟩
    simp only at ha
    subst ha
    have done : min p.size q.size - k = 0 := by
      have : ¬ k < (p.toList.zip q.toList).length := fun h => by rw [List.drop_eq_getElem_cons h] at hk; cases hk
      omega
    rw [done, ansAt] at an
    wp_walk
    exact ⟨_, rfl, by simpa [Builtin.Tuple.tupleCompareSizes] using an⟩
  case h => exact ⟨rfl, rfl, 0, rfl, fun m hm => absurd hm (Nat.not_lt_zero _), by simpa using fin⟩
theorem loopMeets (u v : Addr) (p q : Array Value) (c c2 : Nat) (e1 e2 : Option Addr) (o1 o2 : Array (Option Value)) (eq lt : Nat → Bool) : ∀ left k : Nat, min p.size q.size - k = left → (∀ m, m < k → eq m = true) →
    Meets (Builtin.«list.__eq__.loop» ⟨[.ref u, .ref v, rawInt k, rawInt 0], []⟩) (fun A R s =>
      s.heap.get? u = some ⟨.type "list", e1, .seq p c, o1⟩ ∧ s.heap.get? v = some ⟨.type "list", e2, .seq q c2, o2⟩ ∧ Pairs A.in1 s p q eq lt ∧
      R (.ok (.ret (.bool (ansAt eq lt (decide (p.size < q.size)) k left)))) s)
  | 0, k, hk, before => fun prog w A R s given => by
    obtain ⟨hp, g, d, tk, os⟩ := s
    obtain ⟨gu, gv, pr, fin⟩ := given
    rw [ansAt] at fin
    wp_walk using wpAny_loadPart' gu, wpAny_loadPart' gv
    by_cases hs : p.size ≤ k
    · have n1 : p[((k : Nat) : Int).toNat]? = none := by simp; omega
      rw [n1]
      wp_walk using wpAny_loadPart' gu, wpAny_loadPart' gv
      exact fin
    · have kp : k < p.size := by omega
      have n1 : p[((k : Nat) : Int).toNat]? = some p[k] := by simp [kp]
      have n2 : q[((k : Nat) : Int).toNat]? = none := by simp; omega
      rw [n1, n2]
      wp_walk using wpAny_loadPart' gu, wpAny_loadPart' gv
      exact fin
  | left + 1, k, hk, before => fun prog w A R s given => by
    have ih := loopMeets u v p q c c2 e1 e2 o1 o2 eq lt left (k + 1) (by omega)
    obtain ⟨hp, g, d, tk, os⟩ := s
    obtain ⟨gu, gv, pr, fin⟩ := given
    rw [ansAt] at fin
    wp_walk using wpAny_loadPart' gu, wpAny_loadPart' gv
    have kp : k < p.size := by omega
    have kq : k < q.size := by omega
    have n1 : p[((k : Nat) : Int).toNat]? = some p[k] := by simp [kp]
    have n2 : q[((k : Nat) : Int).toNat]? = some q[k] := by simp [kq]
    have up : ((k : Int) + 1) = ((k + 1 : Nat) : Int) := by push_cast; rfl
    rw [n1, n2]
    refine wpAny_bind (pr.same k kp kq prog w _ _ ?_)
    cases h : eq k with
    | true =>
      rw [h, if_pos rfl] at fin
      have before2 : ∀ m, m < k + 1 → eq m = true := fun m hm => (Nat.lt_succ_iff_lt_or_eq.mp hm).elim (before m) fun e => e ▸ h
      wp_walk
      rw [up]
      refine ⟨plainId_quiet plain_eq_loop _, codeAny_builtin entry_eq_loop ?_⟩
      rw [Around.under_plainId plain_eq_loop _]
      exact ih before2 prog w A R _ ⟨gu, gv, pr, fin⟩
    | false =>
      rw [h, if_neg Bool.false_ne_true] at fin
      wp_walk using wpAny_loadPart' gu, wpAny_loadPart' gv
      rw [n1, n2]
      have now := pr.less k kp kq before h prog w
      wp_walk using now
      exact fin
theorem lstMeets (u v : Addr) (p q : Array Value) (c c2 : Nat) (e1 e2 : Option Addr) (o1 o2 : Array (Option Value)) (eq lt : Nat → Bool) :
    Meets (Builtin.«list.__lt__» ⟨[.ref u, .ref v], []⟩) (fun A R s =>
      s.heap.get? u = some ⟨.type "list", e1, .seq p c, o1⟩ ∧ s.heap.get? v = some ⟨.type "list", e2, .seq q c2, o2⟩ ∧ Pairs A.in1 s p q eq lt ∧
      R (.ok (.ret (.bool (ansAt eq lt (decide (p.size < q.size)) 0 (min p.size q.size))))) s) := fun prog w A R s given => by
  obtain ⟨hp, g, d, tk, os⟩ := s
  obtain ⟨gu, gv, pr, fin⟩ := given
  have sub := AutoSeq1.sub_list_list
  wp_walk using wpAny_loadPart' gu, wpAny_loadPart' gv
  refine ⟨plainId_quiet plain_eq_loop _, codeAny_builtin entry_eq_loop ?_⟩
  rw [Around.under_plainId plain_eq_loop _]
  exact loopMeets u v p q c c2 e1 e2 o1 o2 eq lt _ 0 rfl (fun m hm => absurd hm (Nat.not_lt_zero _)) prog w A R _ ⟨gu, gv, pr, by simpa using fin⟩
section
variable {A : Around} {s : Shared} {u v : Addr} {p q : Array Value} {eq lt : Nat → Bool}
theorem tupLt (hu : s.heap.IsTuple u p) (hv : s.heap.IsTuple v q) (room : A.units < cLine) (pr : Pairs A.in1 s p q eq lt) : RcLt A s (.ref u) (.ref v) (ansAt eq lt (decide (p.size < q.size)) 0 (min p.size q.size)) := fun prog w E Q h => by
  obtain ⟨⟨k1, e1, d1, o1⟩, g1, t1, c1, s1⟩ := id hu
  obtain ⟨⟨k2, e2, d2, o2⟩, g2, t2, c2, s2⟩ := id hv
  simp only at t1 s1 t2 s2
  subst t1 s1 t2 s2
  refine richCompare_meets_room (op := .Lt) ⟨_, g1, rfl⟩ ⟨_, g2, rfl⟩ F.slot_tuple_lt F.entry_tuple_lt (F.args_tuple_lt_2 _ _) (tupMeets u v p q c1 c2 e1 e2 o1 o2 eq lt) ⟨g1, g2, pr, ?_⟩ room
  exact (show Value.bool _ ≠ Value.notImplemented ∧ _ from ⟨(fun x => nomatch x), h⟩)
theorem lstLt (hu : s.heap.IsList u p) (hv : s.heap.IsList v q) (room : A.units < cLine) (pr : Pairs A.in1 s p q eq lt) : RcLt A s (.ref u) (.ref v) (ansAt eq lt (decide (p.size < q.size)) 0 (min p.size q.size)) := fun prog w E Q h => by
  obtain ⟨⟨k1, e1, d1, o1⟩, g1, t1, c1, s1⟩ := id hu
  obtain ⟨⟨k2, e2, d2, o2⟩, g2, t2, c2, s2⟩ := id hv
  simp only at t1 s1 t2 s2
  subst t1 s1 t2 s2
  refine richCompare_meets_room (op := .Lt) ⟨_, g1, rfl⟩ ⟨_, g2, rfl⟩ F.slot_list_lt F.entry_list_lt (F.args_list_lt_2 _ _) (lstMeets u v p q c1 c2 e1 e2 o1 o2 eq lt) ⟨g1, g2, pr, ?_⟩ room
  exact (show Value.bool _ ≠ Value.notImplemented ∧ _ from ⟨(fun x => nomatch x), h⟩)
end
end Dn.Fd

namespace Dn
open PySem L2
open Evl (Ex)
open PySem.SeqAt
/-! the order of data, by the first difference -/
mutual
/-- x < y, at the first difference -/
def ltD : PyData → PyData → Bool
  | .int x, .int y => decide (x < y)
  | .str x, .str y => decide (x.cps.toList < y.cps.toList)
  | .bool x, .bool y => W.dataLt (.bool x) (.bool y)
  | .list xs, .list ys => ltDs xs ys
  | .tuple xs, .tuple ys => ltDs xs ys
  | _, _ => false
def ltDs : List PyData → List PyData → Bool
  | [], [] => false
  | [], _ :: _ => true
  | _ :: _, [] => false
  | x :: xs, y :: ys => if PyData.eqv x y = true then ltDs xs ys else ltD x y
end
mutual
/-- the first difference is one that < can tell -/
def cmpD : PyData → PyData → Bool
  | .int _, .int _ => true
  | .str _, .str _ => true
  | .bool _, .bool _ => true
  | .list xs, .list ys => cmpDs xs ys
  | .tuple xs, .tuple ys => cmpDs xs ys
  | _, _ => false
def cmpDs : List PyData → List PyData → Bool
  | x :: xs, y :: ys => if PyData.eqv x y = true then cmpDs xs ys else cmpD x y
  | _, _ => true
end
theorem ansAt_shift (eq lt : Nat → Bool) (z : Bool) : ∀ left k, Fd.ansAt eq lt z (k + 1) left = Fd.ansAt (fun i => eq (i + 1)) (fun i => lt (i + 1)) z k left
  | 0, k => rfl
  | left + 1, k => by
    rw [Fd.ansAt, Fd.ansAt, ansAt_shift eq lt z left (k + 1)]
theorem ansAt_ltDs : ∀ xs ys : List PyData, Fd.ansAt (fun j => PyData.eqv (xs.getD j .none) (ys.getD j .none)) (fun j => ltD (xs.getD j .none) (ys.getD j .none)) (decide (xs.length < ys.length)) 0 (min xs.length ys.length) = ltDs xs ys
  | [], [] => by simp [Fd.ansAt, ltDs]
  | [], y :: ys => by simp [Fd.ansAt, ltDs]
  | x :: xs, [] => by simp [Fd.ansAt, ltDs]
  | x :: xs, y :: ys => by
    have ih := ansAt_ltDs xs ys
    rw [show min (x :: xs).length (y :: ys).length = min xs.length ys.length + 1 by rw [List.length_cons, List.length_cons]; omega, Fd.ansAt, ansAt_shift]
    rw [ltDs]
    show (if PyData.eqv x y = true then _ else ltD x y) = _
    have e : decide ((x :: xs).length < (y :: ys).length) = decide (xs.length < ys.length) := by simp
    rw [e]
    by_cases h : PyData.eqv x y = true
    · rw [if_pos h, if_pos h, ← ih]; rfl
    · rw [if_neg h, if_neg h]
theorem cmpDs_cons {x y : PyData} {xs ys : List PyData} (h : cmpDs (x :: xs) (y :: ys) = true) : (PyData.eqv x y = true → cmpDs xs ys = true) ∧ (PyData.eqv x y = false → cmpD x y = true) := by
  rw [cmpDs] at h
  refine ⟨fun e => by rwa [if_pos e] at h, fun e => by rwa [e, if_neg Bool.false_ne_true] at h⟩
theorem len_of_reads {h : Heap} {vs : Array Value} {xs : List PyData} {as : List Addr} (r : ReadsAll h vs.toList xs as) : vs.size = xs.length := by
  have := ReadsAll.length _ _ _ r
  simpa using this
mutual
theorem rcLtD : ∀ (d e : PyData) (A : Around) (s : Shared) (a b : Value) (as bs : List Addr), Reads s.heap a d as → Reads s.heap b e bs → d.canLay0 = true → e.canLay0 = true → cmpD d e = true → A.units + min d.depth e.depth < cLine → RcLt A s a b (ltD d e)
  | .int x, e, A, s, a, b, as, bs, ra, rb, _, _, hc, room => by
    cases e with
    | int y =>
      have := W.rcLt_alike (.int x) (.int y) A s a b as bs ra rb (by simp [W.alike]) (fun z => nomatch z) room
      rw [W.dataLt_int] at this
      rw [ltD]; exact this
    | _ => exact absurd hc (by simp [cmpD])
  | .str x, e, A, s, a, b, as, bs, ra, rb, _, _, hc, room => by
    cases e with
    | str y =>
      have := W.rcLt_alike (.str x) (.str y) A s a b as bs ra rb (by simp [W.alike]) (fun z => nomatch z) room
      rw [W.dataLt_str] at this
      rw [ltD]; exact this
    | _ => exact absurd hc (by simp [cmpD])
  | .bool x, e, A, s, a, b, as, bs, ra, rb, _, _, hc, room => by
    cases e with
    | bool y =>
      have := W.rcLt_alike (.bool x) (.bool y) A s a b as bs ra rb (by simp [W.alike]) (fun z => nomatch z) room
      rw [ltD]; exact this
    | _ => exact absurd hc (by simp [cmpD])
  | .none, e, _, _, _, _, _, _, _, _, _, _, hc, _ => absurd hc (by cases e <;> simp [cmpD])
  | .dict _, e, _, _, _, _, _, _, _, _, _, _, hc, _ => absurd hc (by cases e <;> simp [cmpD])
  | .list xs, e, A, s, a, b, as, bs, ra, rb, la, lb, hc, room => by
    cases e with
    | list ys =>
      rw [PyData.canLay0] at la lb
      rw [cmpD] at hc
      cases ra with
      | @list u o p c _ as1 g1 g2 g3 g4 =>
        cases rb with
        | @list v o' q c' _ bs1 f1 f2 f3 f4 =>
          have n1 := len_of_reads g4
          have n2 := len_of_reads f4
          have big := Fd.lstLt (s := s) ⟨_, g1, g2, _, g3⟩ ⟨_, f1, f2, _, f3⟩ (room_here room) (eq := pairEq xs ys) (lt := fun j => ltD (xs.getD j .none) (ys.getD j .none)) ⟨fun k kp kq => by
            have := eqAt_readsAll xs ys A.in1 s p.toList q.toList _ _ g4 f4 la lb (room_in room) k (by simpa using kp) (by simpa using kq)
            simpa using this, fun k kp kq bef no => by
            have := rcLtDs xs ys A.in1 s p.toList q.toList _ _ g4 f4 la lb hc (room_in room) k (by simpa using kp) (by simpa using kq) bef no
            simpa using this⟩
          rw [n1, n2] at big
          have ans := ansAt_ltDs xs ys
          rw [ltD, ← ans]
          exact big
    | _ => exact absurd hc (by simp [cmpD])
  | .tuple xs, e, A, s, a, b, as, bs, ra, rb, la, lb, hc, room => by
    cases e with
    | tuple ys =>
      rw [PyData.canLay0] at la lb
      rw [cmpD] at hc
      cases ra with
      | @tuple u o p c _ as1 g1 g2 g3 g4 =>
        cases rb with
        | @tuple v o' q c' _ bs1 f1 f2 f3 f4 =>
          have n1 := len_of_reads g4
          have n2 := len_of_reads f4
          have big := Fd.tupLt (s := s) ⟨_, g1, g2, _, g3⟩ ⟨_, f1, f2, _, f3⟩ (room_here room) (eq := pairEq xs ys) (lt := fun j => ltD (xs.getD j .none) (ys.getD j .none)) ⟨fun k kp kq => by
            have := eqAt_readsAll xs ys A.in1 s p.toList q.toList _ _ g4 f4 la lb (room_in room) k (by simpa using kp) (by simpa using kq)
            simpa using this, fun k kp kq bef no => by
            have := rcLtDs xs ys A.in1 s p.toList q.toList _ _ g4 f4 la lb hc (room_in room) k (by simpa using kp) (by simpa using kq) bef no
            simpa using this⟩
          rw [n1, n2] at big
          have ans := ansAt_ltDs xs ys
          rw [ltD, ← ans]
          exact big
    | _ => exact absurd hc (by simp [cmpD])
theorem rcLtDs : ∀ (xs ys : List PyData) (A : Around) (s : Shared) (vs ws : List Value) (as bs : List Addr), ReadsAll s.heap vs xs as → ReadsAll s.heap ws ys bs → PyData.canLayAll0 xs = true → PyData.canLayAll0 ys = true → cmpDs xs ys = true → A.units + min (PyData.depthAll xs) (PyData.depthAll ys) < cLine →
    ∀ k (kp : k < vs.length) (kq : k < ws.length), (∀ m, m < k → pairEq xs ys m = true) → pairEq xs ys k = false → RcLt A s vs[k] ws[k] (ltD (xs.getD k .none) (ys.getD k .none))
  | [], _, _, _, _, _, _, _, ra, _, _, _, _, _, _, kp, _, _, _ => by cases ra; exact absurd kp (Nat.not_lt_zero _)
  | _ :: _, [], _, _, _, _, _, _, _, rb, _, _, _, _, _, _, kq, _, _ => by cases rb; exact absurd kq (Nat.not_lt_zero _)
  | x :: xs, y :: ys, A, s, _, _, _, _, ra, rb, la, lb, hc, room, k, kp, kq, bef, no => by
    rw [PyData.canLayAll0, Bool.and_eq_true] at la lb
    have cc := cmpDs_cons hc
    cases ra with
    | cons r rs =>
      cases rb with
      | cons r' rs' =>
        cases k with
        | zero => exact rcLtD x y A s _ _ _ _ r r' la.1 lb.1 (cc.2 no) (room_head room)
        | succ k => exact rcLtDs xs ys A s _ _ _ _ rs rs' la.2 lb.2 (cc.1 (bef 0 (Nat.succ_pos k))) (room_tail room) k (Nat.lt_of_succ_lt_succ kp) (Nat.lt_of_succ_lt_succ kq) (fun m hm => bef (m + 1) (Nat.succ_lt_succ hm)) no
end
end Dn

namespace Dn
open PySem L2
open Evl (Ex)

/-! ## 31. < of tuples and of lists, by the first difference -/
def ltOk (a b : D) : Bool := shp a && shp b && cmpD a.py b.py
def gLtX : List D → Option O
  | [.tup a, .tup b] => if ltOk (.tup a) (.tup b) = true then some (bO (ltD (D.tup a).py (D.tup b).py)) else none
  | [.lst a, .lst b] => if ltOk (.lst a) (.lst b) = true then some (bO (ltD (D.lst a).py (D.lst b).py)) else none
  | l => gLt l
def rFst (K : PySem.W.Frag) : R2 := fun x y H Q => ∃ d e, Dp K H x d ∧ Dp K H y e ∧ SeqAt.shaped d = true ∧ SeqAt.shaped e = true ∧ cmpD d e = true ∧ Q (.bl (ltD d e)) H
section
variable {X : Cx}
theorem o_fst (hu : X.A.units + 64 < cLine) : OpR X (compareOp .Lt) (rFst X.K) := by
  intro pins s σ H x y v u Q I rx ry h
  obtain ⟨d, e, hd, he, sd, se, hc, q⟩ := h
  obtain ⟨as, r1⟩ := Dp.reads I d x v hd rx
  obtain ⟨bs, r2⟩ := Dp.reads I e y u he ry
  exact rcLtD d e _ _ v u as bs r1 r2 (SeqAt.canLay_of_shaped sd) (SeqAt.canLay_of_shaped se) hc (SeqAt.room_of_shaped sd hu) _ _ _ _ ⟨.bl _, H, I, rfl, q⟩
def rLtX (K : PySem.W.Frag) : R2 := fun x y H Q => rFst K x y H Q ∨ rLtO K x y H Q
theorem o_ltX (hu : X.A.units + 64 < cLine) : OpR X (compareOp .Lt) (rLtX X.K) := (o_fst hu).or (o_lt hu)
theorem lt_of {a b : D} (h : ltOk a b = true) : shp a = true ∧ shp b = true ∧ cmpD a.py b.py = true := by
  unfold ltOk at h
  rw [Bool.and_eq_true, Bool.and_eq_true] at h
  exact ⟨h.1.1, h.1.2, h.2⟩
theorem n_ltX {K : PySem.W.Frag} : Snd2 K (rLtX K) gLtX := fun B H x y a b o hx ha hb hg Q q => by
  unfold gLtX at hg
  split at hg
  · rename_i h; cases h
    split at hg
    · rename_i hs
      cases hg
      obtain ⟨h1, h2, h3⟩ := lt_of hs
      exact .inl ⟨_, _, ha.dp hx (shp_nx h1), hb.dp hx (shp_nx h2), h1, h2, h3, q.fr hx (.bl _)⟩
    · cases hg
  · rename_i h; cases h
    split at hg
    · rename_i hs
      cases hg
      obtain ⟨h1, h2, h3⟩ := lt_of hs
      exact .inl ⟨_, _, ha.dp hx (shp_nx h1), hb.dp hx (shp_nx h2), h1, h2, h3, q.fr hx (.bl _)⟩
    · cases hg
  · exact .inr (n_lt B H x y a b o hx ha hb hg Q q)
end
section
variable {i j : Int} {a b : Str} {ds es : List D}
theorem gLtX_i : gLtX [.int i, .int j] = some (bO (decide (i < j))) := nr rfl
theorem gLtX_z : gLtX [.str a, .str b] = some (bO (decide (zl a < zl b))) := gLt_z
theorem gLtX_t (h : ltOk (.tup ds) (.tup es) = true) : gLtX [.tup ds, .tup es] = some (bO (ltD (D.tup ds).py (D.tup es).py)) := if_pos h
theorem gLtX_l (h : ltOk (.lst ds) (.lst es) = true) : gLtX [.lst ds, .lst es] = some (bO (ltD (D.lst ds).py (D.lst es).py)) := if_pos h
end
theorem cutD_map {α β : Type} (f : α → β) (xs : List α) (lo hi : Option Int) : cutD (xs.map f) lo hi = (cutD xs lo hi).map f := by
  unfold cutD; rw [List.length_map, List.map_take, List.map_drop]
theorem cutD_mem {α : Type} {xs : List α} {lo hi : Option Int} {x : α} (h : x ∈ cutD xs lo hi) : x ∈ xs := by
  unfold cutD at h; exact List.mem_of_mem_drop (List.mem_of_mem_take h)
theorem cutD_len_hi {α : Type} (xs : List α) {m : Int} (h : 0 ≤ m) : (cutD xs none (some m)).length ≤ m.toNat := by
  unfold cutD
  rw [HT.sIx_none, Nat.sub_zero, List.drop_zero, List.length_take, ← Int.toNat_of_nonneg h, HT.sIx_nat]
  omega
theorem cutS_mem {z : Str} {lo hi : Option Int} {c : Nat} (h : c ∈ zl (cutS z lo hi)) : c ∈ zl z := by
  unfold cutS at h; exact List.mem_of_mem_drop (List.mem_of_mem_take h)
end Dn

namespace Dn
open PySem L2
open Evl (Ex)

/-! ## 32. list(x), of a text too -/
def rLstS : List V → Hp → VK → Prop := fun xs H Q => ∃ z : Str, xs = [.str z] ∧ z.length ≤ sizeLine ∧ ∀ l, H l = none → Q (.ref l) (upd H l (.lst ((zl z).map fun c => V.str (one c))))
theorem valsAt : ∀ (xs : List V) (us : List Value), us.length = xs.length → (∀ (j : Nat) (u : Value), us[j]? = some u → ∃ x, xs[j]? = some x ∧ RelV x u) → Vals xs us
  | [], [], _, _ => .nil
  | [], _ :: _, h, _ => by cases h
  | _ :: _, [], h, _ => by cases h
  | x :: xs, u :: us, h, k => by
    obtain ⟨y, hy, r⟩ := k 0 u rfl
    cases hy
    exact .cons r (valsAt xs us (Nat.succ.inj h) fun j v hv => k (j + 1) v hv)
theorem cr_listS {X : Cx} (hc : X.calm = true) : CallR X (.type "list") rLstS := by
  intro pins s σ H xs us Q I r h
  obtain ⟨z, rfl, hz, q⟩ := h
  obtain ⟨u, rfl, t, rfl⟩ := vals1 r
  refine call_list_str (I.ok.hd hc) z t (hn := hz) fun h' tk acc c' hk e hi => ?_
  refine ⟨.ref s.heap.objs.size, upd H s.heap.objs.size (.lst ((zl z).map fun c => V.str (one c))), I.laid hk (Nat.le_refl _) ⟨by rw [List.length_map]; exact hz, acc.toList, c', ?_, by rw [Array.toArray_toList]; exact e⟩, rfl, q _ (I.hok.fresh (Nat.le_refl _))⟩
  refine valsAt _ _ (by rw [List.length_map, Array.length_toList]; exact hi.1) fun j u hj => ?_
  obtain ⟨c, t', hc', rfl⟩ := hi.2 j u (by rw [← Array.getElem?_toList]; exact hj)
  exact ⟨.str (one c), by simp [hc'], ⟨_, rfl⟩⟩
def gListX : List D → Option O
  | [.str z] => if z.length ≤ sizeLine then some (.lst (signs z)) else none
  | l => gList l
def rListX (K : PySem.W.Frag) : List V → Hp → VK → Prop := fun xs H Q => rLstS xs H Q ∨ (∃ p ys, xs = [.ref p] ∧ (SqL K H p ys ∨ SqT K H p ys) ∧ ∀ l, H l = none → Q (.ref l) (upd H l (.lst ys)))
theorem cr_listX {X : Cx} (hc : X.calm = true) : CallR X (.type "list") (rListX X.K) := (cr_listS hc).or call_list_of
theorem n_listX {K : PySem.W.Frag} : SndN K (rListX K) gListX := fun B H vs ds o hx hr hg Q q => by
  unfold gListX at hg
  split at hg
  · split at hg
    · rename_i hl
      cases hg
      obtain ⟨v, rfl, h⟩ := hr.one
      cases h
      refine .inl ⟨_, rfl, hl, fun l hn => q.newL hx ?_ hn⟩
      rename_i z
      show RepL K B ((zl z).map fun c => V.str (one c)) ((zl z).map fun c => D.str (one c))
      induction zl z with
      | nil => exact .nil
      | cons c cs ih => exact .cons (.str _) ih
    · cases hg
  · exact .inr (n_list B H vs ds o hx hr hg Q q)
theorem gListX_z {z : Str} (h : z.length ≤ sizeLine) : gListX [.str z] = some (.lst (signs z)) := if_pos h
theorem gListX_l {ds : List D} : gListX [.lst ds] = some (.lst ds) := nr rfl
theorem gListX_t {ds : List D} : gListX [.tup ds] = some (.lst ds) := nr rfl
theorem gListX_s {ns : List Int} : gListX [.scr ns] = some (.lst (ns.map .int)) := nr rfl
end Dn

namespace Dn
open PySem L2

/-! ## 33. Ways apart; what is drawn -/
section
variable {α β γ : Type}
theorem Ev_ite {c : Prop} [Decidable c] {a b : Option (Ro α)} {Q : PostE α} {X : PostE Exn} (h1 : c → @EvC _ a Q X) (h2 : ¬ c → @EvC _ b Q X) : @EvC _ (if c then a else b) Q X := by
  by_cases h : c
  · rw [if_pos h]; exact h1 h
  · rw [if_neg h]; exact h2 h
theorem skol2 {P : α → β → γ → Prop} (h : ∀ x, ∃ a b, P x a b) : ∃ (f : α → β) (g : α → γ), ∀ x, P x (f x) (g x) :=
  ⟨fun x => (h x).choose, fun x => (h x).choose_spec.choose, fun x => (h x).choose_spec.choose_spec⟩
theorem skol1 {P : α → β → Prop} (h : ∀ x, ∃ a, P x a) : ∃ (f : α → β), ∀ x, P x (f x) :=
  ⟨fun x => (h x).choose, fun x => (h x).choose_spec⟩
end
theorem ex_map {α β : Type} {P : α → Prop} {f : α → β} : ∀ {xs : List β}, (∀ x ∈ xs, ∃ r, x = f r ∧ P r) → ∃ rl : List α, xs = rl.map f ∧ ∀ r ∈ rl, P r
  | [], _ => ⟨[], rfl, fun r h => (List.not_mem_nil h).elim⟩
  | x :: xs, h => by
    obtain ⟨r, rfl, hr⟩ := h x List.mem_cons_self
    obtain ⟨rl, rfl, hrl⟩ := ex_map (f := f) (P := P) fun y hy => h y (List.mem_cons_of_mem _ hy)
    exact ⟨r :: rl, rfl, fun s hs => (List.mem_cons.mp hs).elim (fun e => e ▸ hr) (hrl s)⟩
/-- what is wished, kept as an instance, so that simp leaves it as it stands -/
class PP (α : Type) where
  run : α → Prop
class PP2 (α β : Type) where
  run : α → β → Prop
def hb {α : Type} [P : PP α] (a : α) : Prop := P.run a
def hq {α β : Type} [P : PP2 α β] (a : α) (b : β) : Prop := P.run a b
theorem hbi {α : Type} {P : PP α} {a : α} (h : P.run a) : @hb α P a := h
theorem hqi {α β : Type} {P : PP2 α β} {a : α} {b : β} (h : P.run a b) : @hq α β P a b := h
/-- a comprehension that draws -/
theorem lc_draw {own : List Nat} {tg : Tg} {f : M O} {St : Type} (E : St → Sl) (P : D → Prop) (ds : List D) (hs : ∀ d ∈ ds, ∀ s : St, ∃ e1, tg.go d (E s) = some e1 ∧ Ev (f e1) (fun o e3 => P o.d ∧ ∃ s', wipeE e3 own = E s') (fun _ _ => False)) (hl : ds.length < 10000000) (s : St) :
    ∃ xs s', lcL own tg cYes f ds [] (E s) = some (xs, E s') ∧ xs.length = ds.length ∧ ∀ x ∈ xs, P x := by
  obtain ⟨xs, e', h1, h2, h3, s', rfl⟩ := lcL_gen (own := own) (tg := tg) (t := cYes) (f := f) (fun _ e => ∃ s, e = E s) (fun _ _ x => P x) ds [] (E s) (by simpa using hl) ⟨s, rfl⟩ (by
    rintro i d e hd ⟨s, rfl⟩
    obtain ⟨e1, g1, g2⟩ := hs d (List.mem_of_getElem? hd) s
    obtain ⟨o, e3, g3, g4, s', g5⟩ := g2.get
    exact ⟨e1, e1, o, e3, g1, rfl, g3, g4, s', g5⟩)
  rw [List.nil_append] at h1
  refine ⟨xs, s', h1, h2, fun x hx => ?_⟩
  obtain ⟨i, hi⟩ := List.getElem?_of_mem hx
  have hlt : i < ds.length := by rw [← h2]; exact (List.getElem?_eq_some_iff.mp hi).1
  obtain ⟨y, hy, c⟩ := h3 i _ (List.getElem?_eq_getElem hlt)
  rw [hi] at hy
  cases hy
  exact c
/-! slices and places, by whole numbers from nought on -/
section
variable {α : Type} {xs : List α}
theorem cutD_lo (k : Nat) : cutD xs (some (k : Int)) none = xs.drop k := by
  unfold cutD
  rw [HT.sIx_none, HT.sIx_nat]
  by_cases h : k ≤ xs.length
  · rw [Nat.min_eq_left h, List.take_of_length_le (by rw [List.length_drop]; omega)]
  · rw [Nat.min_eq_right (by omega), List.drop_eq_nil_of_le (by omega), List.drop_eq_nil_of_le (by omega), List.take_nil]
theorem cutD_hi (k : Nat) : cutD xs none (some (k : Int)) = xs.take k := by
  unfold cutD
  rw [HT.sIx_none, HT.sIx_nat, List.drop_zero, Nat.sub_zero]
  by_cases h : k ≤ xs.length
  · rw [Nat.min_eq_left h]
  · rw [Nat.min_eq_right (by omega), List.take_of_length_le (by omega), List.take_of_length_le (by omega)]
theorem cutD_1 : cutD xs (some 1) none = xs.drop 1 := cutD_lo 1
theorem cutD_2 : cutD xs (some 2) none = xs.drop 2 := cutD_lo 2
theorem ixN_nat {n : Nat} {j : Int} (h0 : 0 ≤ j) (h1 : j < n) : ixN n j = some j.toNat := by unfold ixN; rw [if_pos h0, if_pos h1]
theorem atI_cn {i : Nat} : atI xs (i : Int) = xs[i]? := by
  by_cases h : i < xs.length
  · rw [atI_nat' (by omega) (by omega), Int.toNat_natCast]
  · rw [List.getElem?_eq_none (by omega)]
    unfold atI ixN
    rw [if_pos (by omega), if_neg (by omega)]; rfl
theorem atI_c0 {x : α} : atI (x :: xs) 0 = some x := atI_cn (i := 0)
theorem atI_c1 {x y : α} : atI (x :: y :: xs) 1 = some y := atI_cn (i := 1)
theorem atI_c2 {x y z : α} : atI (x :: y :: z :: xs) 2 = some z := atI_cn (i := 2)
theorem atI_c3 {x y z u : α} : atI (x :: y :: z :: u :: xs) 3 = some u := atI_cn (i := 3)
theorem atI_c4 {x y z u v : α} : atI (x :: y :: z :: u :: v :: xs) 4 = some v := atI_cn (i := 4)
theorem atI_c5 {x y z u v w : α} : atI (x :: y :: z :: u :: v :: w :: xs) 5 = some w := atI_cn (i := 5)
theorem eqv_iz {i : Int} {z : Str} : D.eqv (.int i) (.str z) = false := by simp [D.eqv, D.py, PyData.eqv]
theorem eqv_zi {i : Int} {z : Str} : D.eqv (.str z) (.int i) = false := by simp [D.eqv, D.py, PyData.eqv]
theorem gEq_iz {i : Int} {z : Str} (h : shp (.str z) = true) : gEq [.int i, .str z] = some (bO false) := by
  show (if (shp (.int i) && shp (.str z)) = true then some (bO (D.eqv (.int i) (.str z))) else none) = _
  rw [h, shp_i, eqv_iz]; rfl
theorem gEq_zi {i : Int} {z : Str} (h : shp (.str z) = true) : gEq [.str z, .int i] = some (bO false) := by
  show (if (shp (.str z) && shp (.int i)) = true then some (bO (D.eqv (.str z) (.int i))) else none) = _
  rw [h, shp_i, eqv_zi]; rfl
theorem gNe_iz {i : Int} {z : Str} (h : shp (.str z) = true) : gNe [.int i, .str z] = some (bO true) := by
  show (if (shp (.int i) && shp (.str z)) = true then some (bO (!D.eqv (.int i) (.str z))) else none) = _
  rw [h, shp_i, eqv_iz]; rfl
theorem gNe_zi {i : Int} {z : Str} (h : shp (.str z) = true) : gNe [.str z, .int i] = some (bO true) := by
  show (if (shp (.str z) && shp (.int i)) = true then some (bO (!D.eqv (.str z) (.int i))) else none) = _
  rw [h, shp_i, eqv_zi]; rfl
theorem shp_z {z : Str} (h : ∀ c ∈ zl z, c < 1114112) : shp (.str z) = true := (shp_str h).shp (by omega)
theorem truD_bl (b : Bool) : truD (.bl b) = some b := nr rfl
theorem truD_l (ds : List D) : truD (.lst ds) = some (!ds.isEmpty) := nr rfl
theorem truD_t (ds : List D) : truD (.tup ds) = some (!ds.isEmpty) := nr rfl
end
end Dn

namespace Dn
open PySem L2
open Evl (Ex)

/-! ## 34. max and min of two whole numbers -/
def gMax2 : List D → Option O
  | [.int i, .int j] => some (iO (if j > i then j else i))
  | _ => none
def gMin2 : List D → Option O
  | [.int i, .int j] => some (iO (if j < i then j else i))
  | _ => none
theorem RdL.two {K : PySem.W.Frag} {B H : Hp} {vs : List V} {d e : D} (h : RdL K B H vs [d, e]) : ∃ v w, vs = [v, w] ∧ Rd K B H v d ∧ Rd K B H w e := by
  cases h with
  | cons h1 h => cases h with
    | cons h2 h => cases h; exact ⟨_, _, rfl, h1, h2⟩
theorem n_max2 {K : PySem.W.Frag} : SndN K (fun xs H Q => ∃ i j, xs = [.int i, .int j] ∧ Q (.int (if j > i then j else i)) H) gMax2 := by
  intro B H vs ds o hx hr hg Q q
  unfold gMax2 at hg
  split at hg
  · obtain ⟨v, w, rfl, h1, h2⟩ := hr.two
    cases h1; cases h2
    injection hg with hg
    subst hg
    exact ⟨_, _, rfl, q.fr hx (.int _)⟩
  · cases hg
theorem n_min2 {K : PySem.W.Frag} : SndN K (fun xs H Q => ∃ i j, xs = [.int i, .int j] ∧ Q (.int (if j < i then j else i)) H) gMin2 := by
  intro B H vs ds o hx hr hg Q q
  unfold gMin2 at hg
  split at hg
  · obtain ⟨v, w, rfl, h1, h2⟩ := hr.two
    cases h1; cases h2
    injection hg with hg
    subst hg
    exact ⟨_, _, rfl, q.fr hx (.int _)⟩
  · cases hg
theorem gMax2_i {i j : Int} : gMax2 [.int i, .int j] = some (iO (if j > i then j else i)) := nr rfl
theorem gMin2_i {i j : Int} : gMin2 [.int i, .int j] = some (iO (if j < i then j else i)) := nr rfl
end Dn

namespace Dn
open PySem L2
open Evl (Ex)

/-! ## 35. A def that calls itself: by how deep it may go; a statement that is never reached -/
section
variable {P : Program} {w : World} {K : PySem.W.Frag} {mg : Str → Option Value} {base : Heap}
/-- as deep as nought: nothing is promised -/
theorem fn_none {k n : Nat} {f : Addr} {fd : FuncData} {ps : List Str} (hn : ps.length = n) : FnOk P w K mg base (L2N.CX P w) k f fd ps (spD K mg n fun _ => none) :=
  ⟨fun vs H Q E h => h.1.trans hn.symm, fun A outer s H args us vs Q E _ _ _ _ h => by
    obtain ⟨_, B, os, S, _, z⟩ := h
    exact z.elim⟩
end
section
variable {X : Cx} {W : WX} {ks : List Nat} {st : Stmt}
theorem s_stuck : PS X st (tS X.K X.mg W ks M.stuck) := ⟨fun pins s σ H D I h => by
  obtain ⟨B, e, S, _, z⟩ := h
  exact z.elim⟩
end

/-! ## 36. str of a whole number, insert -/
def gStr1 : List D → Option O
  | [.int i] => if i.natAbs.log2 < 1920 then some (sO (toString i)) else none
  | _ => none
theorem n_str1 {K : PySem.W.Frag} : SndN K (fun xs H Q => ∃ i : Int, xs = [.int i] ∧ i.natAbs.log2 < 1920 ∧ Q (.str (toString i)) H) gStr1 := by
  intro B H vs ds o hx hr hg Q q
  unfold gStr1 at hg
  split at hg
  · split at hg
    · obtain ⟨v, rfl, h1⟩ := hr.one
      cases h1
      injection hg with hg
      subst hg
      exact ⟨_, rfl, by assumption, q.fr hx (.str _)⟩
    · cases hg
  · cases hg
/-- xs.insert(0, e) -/
def gIns0 (ds : List D) (d : D) : Option (D × List D) := if ds.length < sizeLine then some (.non, d :: ds) else none
def rIns0 : V → List V → Hp → VK → Prop := fun x vs H Q => ∃ (l : Addr) (xs : List V) (i : Int) (y : V), x = .ref l ∧ .int 0 :: vs = [.int i, y] ∧ H l = some (.lst xs) ∧ xs.length < sizeLine ∧ 0 ≤ i ∧ i < 2 ^ 63 ∧ Q .non (upd H l (.lst (xs.take i.toNat ++ [y] ++ xs.drop i.toNat)))
theorem u_ins0 {K : PySem.W.Frag} : Mu1 K rIns0 gIns0 := by
  intro B H l xs ds y d res ds' hx hl hr hd hg Q q
  unfold gIns0 at hg
  split at hg
  · rename_i hz
    cases hg
    refine ⟨l, xs, 0, y, rfl, rfl, hl, by rw [hr.length]; exact hz, by omega, by omega, q .non (y :: xs) (.cons hd hr) .non⟩
  · cases hg
theorem gIns0_q {ds : List D} {d : D} (h : ds.length < sizeLine) : gIns0 ds d = some (.non, d :: ds) := if_pos h
section
variable {X : Cx} {W : WX} {e : Expr} {f : M O} {i : Nat} {x : Str} {p apos pos p0 : Pos} {k0 : Nat}
theorem d_ins0 (hv : PE X (.Name x p) (tVar i)) (he : PE X e (tE X.K X.mg W f))
    (hbase : attributeBase (.Name x p) "insert" X.env (eval (.Name x p) X.env) = eval (.Name x p) X.env := by rfl)
    (hfew : ((backTo pos (starEach (.Constant (.int 0) k0 p0 :: [e]) X.env)).all (fun x => !x.1) && (backToKw pos (keywordEach [] X.env)).all (fun x => x.1.isSome)
      && decide ((.Constant (.int 0) k0 p0 :: [e]).length + ([] : List Keyword).length + (if ([] : List Keyword).isEmpty then 0 else 1) < 30)) = true := by rfl)
    (hline : (apos.endLine == pos.line) = true := by rfl) (hst : starEach (.Constant (.int 0) k0 p0 :: [e]) X.env = (false, eval (.Constant (.int 0) k0 p0) X.env) :: starEach [e] X.env := by rfl) (hst2 : starEach [e] X.env = (false, eval e X.env) :: starEach [] X.env := by rfl) (hpl : (backTo pos (starEach [e] X.env)).any (·.1) = false := by rfl) :
    PE X (.Call (.Attribute (.Name x p) "insert" apos) [.Constant (.int 0) k0 p0, e] [] pos) (tE X.K X.mg W (eMut1 gIns0 i f)) := pe_imp (pe_bm PySem.F.plainAttrs_list PySem.F.slot_list_insert PySem.F.type_list_insert mt_insert hv (pa_cons pe_int (pa_cons he pa_nil hst2) hst) hbase hfew hline hst hpl) fun σ H Q h => mut1_run u_ins0 h
end
/-! ## 37. A tuple of the module's, by its name -/
structure TupC (K : PySem.W.Frag) (mg : Str → Option Value) (x : Str) (ds : List D) : Prop where
  ex : ∃ (a : Addr) (o : Obj) (its : Array Value) (n : Nat) (vs : List V), mg x = some (.ref a) ∧ K.lookup a = some o ∧ o.cls = .type "tuple" ∧ o.data = .seq its n ∧ its.size ≤ sizeLine ∧ Vals vs its.toList ∧ vs.length ≤ 1 ∧ ∀ B, RepL K B vs ds
theorem d_gt {X : Cx} {W : WX} {x : Str} {pos : Pos} {ds : List D} (hg : Gl X x) (h : TupC X.K X.mg x ds) (hdb : (x == ("__debug__" : Str)) = false := by decide) : PE X (.Name x pos) (tE X.K X.mg W (eC (.tup ds))) := by
  obtain ⟨a, o, its, n, vs, h1, h2, h3, h4, h5, h6, h8, h7⟩ := h.ex
  exact d_c (v := .ref a) (pe_glob hg h1 rfl hdb) fun B => .tup (.inr ⟨h8, .inr ⟨o, its, n, h2, h3, h4, h5, h6⟩⟩) (h7 B)
theorem gStr1_i {i : Int} (h : i.natAbs.log2 < 1920) : gStr1 [.int i] = some (sO (toString i)) := if_pos h
/-! ## 38. A comprehension, by what is made so far -/
theorem lc_acc_go {own : List Nat} {tg : Tg} {f : M O} (I : List D → Sl → Prop) : ∀ (ds acc : List D) (e : Sl), acc.length + ds.length < 10000000 →
    (∀ d ∈ ds, ∀ acc' e, I acc' e → ∃ e1, tg.go d e = some e1 ∧ Ev (f e1) (fun o e3 => I (acc' ++ [o.d]) (wipeE e3 own)) (fun _ _ => False)) → I acc e →
    ∃ xs e', lcL own tg cYes f ds acc e = some (acc ++ xs, e') ∧ xs.length = ds.length ∧ I (acc ++ xs) e'
  | [], acc, e, _, _, h0 => ⟨[], e, by simp [lcL], rfl, by rw [List.append_nil]; exact h0⟩
  | d :: ds, acc, e, hl, hs, h0 => by
    obtain ⟨e1, h1, h2⟩ := hs d List.mem_cons_self acc e h0
    obtain ⟨o, e3, h3, h5⟩ := h2.get
    have hz : acc.length < sizeLine := by rw [sizeLine_eq]; rw [List.length_cons] at hl; omega
    obtain ⟨xs, e', q1, q2, q3⟩ := lc_acc_go I ds (acc ++ [o.d]) (wipeE e3 own) (by rw [List.length_append]; simp only [List.length_cons, List.length_nil] at *; omega) (fun d' h => hs d' (List.mem_cons_of_mem _ h)) h5
    refine ⟨o.d :: xs, e', ?_, by rw [List.length_cons, List.length_cons, q2], by rw [List.append_assoc] at q3; exact q3⟩
    have h2 : cYes e1 = some (.ok true e1) := rfl
    simp only [lcL, h1, h2, h3, hz, if_true, q1, List.append_assoc, List.singleton_append]
theorem lc_acc {own : List Nat} {tg : Tg} {f : M O} (I : List D → Sl → Prop) (ds : List D) (e : Sl) (hl : ds.length < 10000000)
    (hs : ∀ d ∈ ds, ∀ acc' e, I acc' e → ∃ e1, tg.go d e = some e1 ∧ Ev (f e1) (fun o e3 => I (acc' ++ [o.d]) (wipeE e3 own)) (fun _ _ => False)) (h0 : I [] e) :
    ∃ xs e', lcL own tg cYes f ds [] e = some (xs, e') ∧ xs.length = ds.length ∧ I xs e' := by
  obtain ⟨xs, e', h1, h2, h3⟩ := lc_acc_go I ds [] e (by simpa using hl) hs h0
  exact ⟨xs, e', h1, h2, h3⟩
theorem lc_map_go {α : Type} {own : List Nat} {tg : Tg} {C : M O} {e : Sl} (f g : α → D) : ∀ (xs : List α) (acc : List D), acc.length + xs.length < 10000000 →
    (∀ x ∈ xs, ∃ e1, tg.go (f x) e = some e1 ∧ Ev (C e1) (fun o e3 => o.d = g x ∧ wipeE e3 own = e) (fun _ _ => False)) → lcL own tg cYes C (xs.map f) acc e = some (acc ++ xs.map g, e)
  | [], acc, _, _ => by simp [lcL]
  | x :: xs, acc, hl, hs => by
    obtain ⟨e1, h1, h2⟩ := hs x List.mem_cons_self
    obtain ⟨o, e3, h3, h4, h5⟩ := h2.get
    have hz : acc.length < sizeLine := by rw [sizeLine_eq]; rw [List.length_cons] at hl; omega
    have ih := lc_map_go f g xs (acc ++ [o.d]) (by rw [List.length_append]; simp only [List.length_cons, List.length_nil] at *; omega) (fun y hy => hs y (List.mem_cons_of_mem _ hy))
    have hy : cYes e1 = some (.ok true e1) := rfl
    rw [h4] at ih
    simp only [List.map_cons, lcL, h1, hy, h3, hz, if_true, h5, h4, ih, List.append_assoc, List.singleton_append]
/-- a comprehension that makes something of each item, and leaves the slots as they were -/
theorem lc_map {α : Type} {own : List Nat} {tg : Tg} {C : M O} {e : Sl} (f g : α → D) (xs : List α) (hl : xs.length < 10000000)
    (hs : ∀ x ∈ xs, ∃ e1, tg.go (f x) e = some e1 ∧ Ev (C e1) (fun o e3 => o.d = g x ∧ wipeE e3 own = e) (fun _ _ => False)) : lcL own tg cYes C (xs.map f) [] e = some (xs.map g, e) := by
  have := lc_map_go f g xs [] (by simpa using hl) hs
  simpa using this
theorem lc_filt_go {α : Type} {own : List Nat} {tg : Tg} {t : M Bool} {C : M O} {e : Sl} (f g : α → D) (p : α → Bool) : ∀ (xs : List α) (acc : List D), acc.length + xs.length < 10000000 →
    (∀ x ∈ xs, ∃ e1, tg.go (f x) e = some e1 ∧ Ev (t e1) (fun b e2 => b = p x ∧ if p x = true then Ev (C e2) (fun o e3 => o.d = g x ∧ wipeE e3 own = e) fun _ _ => False else wipeE e2 own = e) fun _ _ => False) → lcL own tg t C (xs.map f) acc e = some (acc ++ (xs.filter p).map g, e)
  | [], acc, _, _ => by simp [lcL]
  | x :: xs, acc, hl, hs => by
    obtain ⟨e1, h1, h2⟩ := hs x List.mem_cons_self
    obtain ⟨b, e2, h3, rfl, h4⟩ := h2.get
    have hz : acc.length < sizeLine := by rw [sizeLine_eq]; rw [List.length_cons] at hl; omega
    have hs' := fun y hy => hs y (List.mem_cons_of_mem _ hy)
    rw [List.length_cons] at hl
    cases hp : p x with
    | true =>
      rw [hp, if_pos rfl] at h4
      obtain ⟨o, e3, h5, h6, h7⟩ := h4.get
      have ih := lc_filt_go f g p xs (acc ++ [o.d]) (by rw [List.length_append]; simp only [List.length_cons, List.length_nil] at *; omega) hs'
      rw [h6] at ih
      rw [hp] at h3
      simp only [List.map_cons, lcL, h1, h3, h5, hz, if_true, h7, h6, ih, List.filter_cons, hp, List.append_assoc, List.singleton_append]
    | false =>
      rw [hp, if_neg (by decide)] at h4
      have ih := lc_filt_go f g p xs acc (by omega) hs'
      rw [hp] at h3
      simp only [List.map_cons, lcL, h1, h3, h4, ih, List.filter_cons, hp, Bool.false_eq_true, if_false]
theorem lc_filt {α : Type} {own : List Nat} {tg : Tg} {t : M Bool} {C : M O} {e : Sl} (f g : α → D) (p : α → Bool) (xs : List α) (hl : xs.length < 10000000)
    (hs : ∀ x ∈ xs, ∃ e1, tg.go (f x) e = some e1 ∧ Ev (t e1) (fun b e2 => b = p x ∧ if p x = true then Ev (C e2) (fun o e3 => o.d = g x ∧ wipeE e3 own = e) fun _ _ => False else wipeE e2 own = e) fun _ _ => False) : lcL own tg t C (xs.map f) [] e = some ((xs.filter p).map g, e) := by
  have := lc_filt_go f g p xs [] (by simpa using hl) hs
  simpa using this
theorem gSum_ints (ns : List Int) : gSum [.lst (ns.map .int)] = some (iO ns.sum) := by
  show (intsD (ns.map D.int)).map _ = _
  rw [intsD_int]; rfl
end Dn

namespace Dn
open PySem L2

/-! ## 39. == of what is plain -/
open Classical in
theorem gNe_pl {x y : D} (hx : x.pl = true) (hy : y.pl = true) (sx : shp x = true) (sy : shp y = true) : gNe [x, y] = some (bO (!decide (x = y))) := by
  have key : gNe [x, y] = (if (shp x && shp y) = true then some (bO (!D.eqv x y)) else none) ∨ (∃ i j, x = .int i ∧ y = .int j) ∨ (∃ i j, x = .str i ∧ y = .str j) ∨ (∃ i j, x = .bl i ∧ y = .bl j) := by
    cases x <;> cases y <;> first | exact .inl rfl | exact .inr (.inl ⟨_, _, rfl, rfl⟩) | exact .inr (.inr (.inl ⟨_, _, rfl, rfl⟩)) | exact .inr (.inr (.inr ⟨_, _, rfl, rfl⟩))
  have e := D.eqv_same hx hy
  rcases key with h | ⟨i, j, rfl, rfl⟩ | ⟨i, j, rfl, rfl⟩ | ⟨i, j, rfl, rfl⟩
  · rw [h, sx, sy]
    show some (bO (!D.eqv x y)) = _
    by_cases z : x = y
    · rw [e.mpr z, decide_eq_true z]
    · rw [decide_eq_false z, Bool.eq_false_iff.mpr fun w => z (e.mp w)]
  · rw [gNe_i]; congr 3; exact decide_eq_decide.mpr ⟨fun h => by rw [h], fun h => by injection h⟩
  · rw [gNe_z]; congr 3; exact decide_eq_decide.mpr ⟨fun h => by rw [h], fun h => by injection h⟩
  · cases hx
open Classical in
theorem gEq_pl {x y : D} (hx : x.pl = true) (hy : y.pl = true) (sx : shp x = true) (sy : shp y = true) : gEq [x, y] = some (bO (decide (x = y))) := by
  have key : gEq [x, y] = (if (shp x && shp y) = true then some (bO (D.eqv x y)) else none) ∨ (∃ i j, x = .int i ∧ y = .int j) ∨ (∃ i j, x = .str i ∧ y = .str j) ∨ (∃ i j, x = .bl i ∧ y = .bl j) := by
    cases x <;> cases y <;> first | exact .inl rfl | exact .inr (.inl ⟨_, _, rfl, rfl⟩) | exact .inr (.inr (.inl ⟨_, _, rfl, rfl⟩)) | exact .inr (.inr (.inr ⟨_, _, rfl, rfl⟩))
  have e := D.eqv_same hx hy
  rcases key with h | ⟨i, j, rfl, rfl⟩ | ⟨i, j, rfl, rfl⟩ | ⟨i, j, rfl, rfl⟩
  · rw [h, sx, sy]
    show some (bO (D.eqv x y)) = _
    by_cases z : x = y
    · rw [e.mpr z, decide_eq_true z]
    · rw [decide_eq_false z, Bool.eq_false_iff.mpr fun w => z (e.mp w)]
  · rw [gEq_i]; congr 2; exact decide_eq_decide.mpr ⟨fun h => by rw [h], fun h => by injection h⟩
  · rw [gEq_z]; congr 2; exact decide_eq_decide.mpr ⟨fun h => by rw [h], fun h => by injection h⟩
  · cases hx
theorem gEq_same {x : D} (hx : x.pl = true) (sx : shp x = true) : gEq [x, x] = some (bO true) := by classical rw [gEq_pl hx hx sx sx, decide_eq_true rfl]
theorem gEq_diff {x y : D} (hx : x.pl = true) (hy : y.pl = true) (sx : shp x = true) (sy : shp y = true) (h : x ≠ y) : gEq [x, y] = some (bO false) := by classical rw [gEq_pl hx hy sx sy, decide_eq_false h]
theorem gNe_same {x : D} (hx : x.pl = true) (sx : shp x = true) : gNe [x, x] = some (bO false) := by classical rw [gNe_pl hx hx sx sx, decide_eq_true rfl]; rfl
theorem gNe_diff {x y : D} (hx : x.pl = true) (hy : y.pl = true) (sx : shp x = true) (sy : shp y = true) (h : x ≠ y) : gNe [x, y] = some (bO true) := by classical rw [gNe_pl hx hy sx sy, decide_eq_false h]; rfl
end Dn

namespace Dn
open PySem L2
open PyProof.Rows (envOfC)
open Evl (Ex)
open ClX

/-! ## 39. The errors of the program: how they are made -/
/-- C's instances carry word and place -/
structure ErC (K : PySem.W.Frag) (C : Addr) : Prop where
  T : OexC K C
  nW : PySem.W.findIn K (.ref C) "word" = some none
  nP : PySem.W.findIn K (.ref C) "place" = some none
/-- behind the first class's __init__ -/
def afterI (a C : Addr) (w y : V) (H : Hp) (Q : VK) : Prop := ∀ dx, H dx = none → dx ≠ a → Q .non (upd (upd (upd H dx (exd dx [("word", w)])) a (exo a C (some dx))) dx (exd dx [("place", y), ("word", w)]))
def spT (K : PySem.W.Frag) : Sp := fun vs H Q E => ∃ (a C : Addr) (w y : V), vs = [.ref a, w, y] ∧ ErC K C ∧ H a = some (exo a C none) ∧ afterI a C w y H Q
def spB (K : PySem.W.Frag) (x : Str) : Sp := fun vs H Q E => ∃ (a C : Addr) (y : V), vs = [.ref a, y] ∧ ErC K C ∧ H a = some (exo a C none) ∧ afterI a C (.str x) y H Q
theorem init_T {K : PySem.W.Frag} {a C : Addr} {w y : V} {H : Hp} {D : Ends} (e : ErC K C) (ha : H a = some (exo a C none)) (h : ∀ dx, H dx = none → dx ≠ a → D.nx [some (.ref a), some w, some y] (upd (upd (upd H dx (exd dx [("word", w)])) a (exo a C (some dx))) dx (exd dx [("place", y), ("word", w)]))) :
    tSeq (tOst K "word" (tVar 0) (tVar 1)) (tOst K "place" (tVar 0) (tVar 2)) D [some (.ref a), some w, some y] H := by
  refine ⟨w, rfl, .ref a, rfl, a, C, rfl, e.T, e.nW, .inl ⟨ha, fun dx hd hn => ?_⟩⟩
  refine ⟨y, rfl, .ref a, rfl, a, C, rfl, e.T, e.nP, .inr ⟨dx, [("word", w)], upd_same, ?_, Nat.le_of_ble_eq_true rfl, h dx hd hn⟩⟩
  rw [upd_ne hn, upd_same]
section
variable {P : Program} {w : World} {K : PySem.W.Frag} {mg : Str → Option Value} {base : Heap}
theorem ok_initT {qual : Str} {st : Stmt} {f : Addr} {fd : FuncData} {k : Nat} (F : FunX K "__init__" qual st f fd) (Sc : FnScope ["self", "word", "place"] ["self", "word", "place"] (defScope st))
    (hb : ∀ (cdv : Value) (A : Around) (outer : List PySem.Env) (s : Shared) (H : Hp) (E : XK), PSs (cxOf (L2N.CX P w) P w K mg base ["self", "word", "place"] qual (defScope st) f cdv A outer s H E) (defBody st) (tSeq (tOst K "word" (tVar 0) (tVar 1)) (tOst K "place" (tVar 0) (tVar 2)))) :
    FnOk P w K mg base (L2N.CX P w) (k + 1) f fd ["self", "word", "place"] (spT K) := by
  refine F.okX Sc (fun vs H Q E h => ?_) (fun cdv A outer s H vs Q E hr h => ⟨_, hb cdv A outer s H E, ?_⟩)
  · obtain ⟨a, C, w, y, rfl, _⟩ := h; rfl
  · obtain ⟨a, C, w, y, rfl, e, ha, q⟩ := h
    exact init_T e ha fun dx h1 h2 => q dx h1 h2
theorem ok_initB {qual x : Str} {st : Stmt} {f : Addr} {fd : FuncData} {k : Nat} (F : FunX K "__init__" qual st f fd) (Sc : FnScope ["self", "place"] ["self", "place"] (defScope st))
    (hb : ∀ (cdv : Value) (A : Around) (outer : List PySem.Env) (s : Shared) (H : Hp) (E : XK), Room k (A.deeper (envOfC qual (defScope st) s.heap.objs.size f cdv)) →
      PSs (cxOf (L2N.CX P w) P w K mg base ["self", "place"] qual (defScope st) f cdv A outer s H E) (defBody st) (tDrop (tCall (spT K) [] (fun _ _ _ => False) (tCons (tVar 0) (tCons (tC (.str x)) (tCons (tVar 1) tNil)))))) :
    FnOk P w K mg base (L2N.CX P w) (k + 1) f fd ["self", "place"] (spB K x) := by
  refine F.okX Sc (fun vs H Q E h => ?_) (fun cdv A outer s H vs Q E hr h => ⟨_, hb cdv A outer s H E hr, ?_⟩)
  · obtain ⟨a, C, y, rfl, _⟩ := h; rfl
  · obtain ⟨a, C, y, rfl, e, ha, q⟩ := h
    exact ⟨.ref a, rfl, y, rfl, a, C, .str x, y, rfl, e, ha, fun dx h1 h2 => q dx h1 h2⟩
end
/-- C.m(e, ..), m a def of the class -/
theorem pe_cfun {X : Cx} {CX : CXT} {k : Nat} {C f : Addr} {mc : Value} {fd : FuncData} {ps : List Str} {sp : Sp} {E : XK} {x m : Str} {p1 p2 pos : Pos} {e : Expr} {es : List Expr} {t : TA} {pl : Sem Bool}
    (F : FnOk X.prog X.w X.K X.mg X.base CX k f fd ps sp) (hr : Room k X.A) (hg : Gl X x) (hm : X.mg x = some (.ref C)) (r : CRead X.K C mc) (cf : PySem.W.findCls X.K (.ref C) mc m = some (.val (.ref f))) (hk : PySem.W.keepIn X.K (.ref f) = true) (hb : Binds X.K fd ps []) (hx : Passes CX X E) (ha : PA X (e :: es) t)
    (hdb : (x == ("__debug__" : Str)) = false := by decide)
    (hc : eval (.Call (.Attribute (.Name x p1) m p2) (e :: es) [] pos) X.env = (do
      let ov ← eval (.Name x p1) X.env
      standAt p2.atName
      let (f, first) ← holding [ov] (getMethod ov m pl)
      callWith pos f first (backTo pos (starEach (e :: es) X.env)) (backToKw pos (keywordEach [] X.env))) := by rfl)
    (he : starEach (e :: es) X.env = (false, eval e X.env) :: starEach es X.env := by rfl) (hpl : (backTo pos (starEach es X.env)).any (·.1) = false := by rfl) :
    PE X (.Call (.Attribute (.Name x p1) m p2) (e :: es) [] pos) (tCall sp [] E t) := by
  refine ⟨fun pins s σ H Q I h => ?_⟩
  refine PySem.W.methodCall_KW (pl := pl) (ld_glob I hg hm ?_ hdb) hc
  refine PySem.W.method_cls I.kIn r.ga (getcval_ok I r (v := .ref f) ⟨cf, rfl⟩ fun s2 I2 => ?_)
  show wpAny _ _ (callWith pos (Value.ref f) [] (backTo pos (starEach (e :: es) X.env)) []) _ _ _
  refine PySem.W.callWith_K (h₀ := X.base) I.ok.mod.kin hk (thn (ha.run pos pins s2 σ H _ I2 h) fun us s1 ⟨vs, H1, I1, r, q⟩ => ⟨I1.kIn, ?_⟩) he hpl
  exact run_fn F hr hb .nil hx I1 r q

/-- an error class of the program, by its name -/
structure Er (P : Program) (w : World) (K : PySem.W.Frag) (mg : Str → Option Value) (base : Heap) (k : Nat) (x : Str) : Prop where
  ex : ∃ (C fI : Addr) (fd : FuncData), ErC K C ∧ PySem.W.findIn K (.ref C) "__init__" = some (some (.ref fI)) ∧ PySem.W.typeIn K (.ref fI) = some (.type "function") ∧ mg x = some (.ref C) ∧
    FnOk P w K mg base (L2N.CX P w) k fI fd ["self", "place"] (spB K x) ∧ Binds K fd ["self", "place"] [] ∧ ∃ ds, Vals [.non] ds ∧ Binds K fd ["self", "place"] ds
/-- what it carries -/
def xfs (x : Str) (d : D) : List (Str × D) := [("place", d), ("word", .str x)]
/-- raise x(e) -/
def sRaise (x : Str) (f : M O) : M Fl := (items [f]).bind fun ds e => some (.ex ⟨x, xfs x (ds.headD .non)⟩ e)
/-- raise x() -/
def sRaise0 (x : Str) : M Fl := fun e => some (.ex ⟨x, xfs x .non⟩ e)
section
variable {X : Cx} {W : WX} {ks : List Nat}
theorem raise_end {C a : Addr} {x : Str} {y : V} {d : D} {H H1 B B1 : Hp} {σ : St} {S S1 : Nat → Addr → Prop} {e' : Sl} (ec : ErC X.K C) (hC : X.mg x = some (.ref C)) (r : Rp X.K B1 H1 σ e' S1) (f : Fr B H (tot S) B1 H1 (tot S1)) (ry : Rep X.K B1 y d) (ha : H1 a = none)
    (h : ExS X.K X.mg W ks B H S σ ⟨x, xfs x d⟩ e') :
    afterI a C (.str x) y (upd H1 a (exo a C none)) fun v H2 => v = .non ∧ ∃ (d : Addr) (fs : List (Str × V)), H2 a = some (exo a C (some d)) ∧ H2 d = some (exd d fs) ∧ H1 d = none ∧ W (.ref C) (some d) σ (upd (del H2 a) d (.xd fs)) := by
  intro dx hd hn
  have hd1 : H1 dx = none := by rwa [upd_ne hn] at hd
  refine ⟨rfl, dx, _, by rw [upd_ne (Ne.symm hn), upd_same], upd_same, hd1, ?_⟩
  have he : ∀ o u1 u2 u3 u4 : HO, upd (del (upd (upd (upd (upd H1 a u1) dx u2) a u3) dx u4) a) dx o = upd H1 dx o := fun o u1 u2 u3 u4 => by
    funext b
    by_cases hb : b = dx
    · subst hb; rw [upd_same, upd_same]
    · rw [upd_ne hb, upd_ne hb]
      by_cases hba : b = a
      · subst hba; rw [del_same, ha]
      · rw [del_ne hba, upd_ne hb, upd_ne hba, upd_ne hb, upd_ne hba]
  rw [he]
  have g := Gr.own r.ex hd1 (.xd [("place", y), ("word", .str x)])
  exact h C dx _ σ B1 _ S1 hC (r.grow g) upd_same (.cons ⟨rfl, ry⟩ (.cons ⟨rfl, .str x⟩ .nil)) (f.back hd1) (Kp.refl _ _) (f.trans (g.fr _))
theorem mk_endN {X : Cx} {pins : List (Addr × Obj)} {σ : L2.St} {H1 H2 : Hp} {Q : XK} {hp hp2 h2 : Heap} {g1 g2 : Array GenState} {d1 d2 : Drawn} {t1 t2 : Nat} {os1 os2 : OsState} {a C d : Addr} {fs : List (Str × V)} (T : Raises X (.ref C)) (I1 : Inv X pins σ H1 ⟨hp, g1, d1, t1, os1⟩)
    (ha : hp.objs.size ≤ a) (k : ∀ b o, hp.get? b = some o → hp2.get? b = some o) (un : Un (frs X.stack) [] (upd H1 a (exo a C none)) H2 hp2 h2) (hok : HOk X.prog X.w H2 h2) (ho : os2 = os1) (hb : PyProof.Rows.AllBare g2)
    (ea : H2 a = some (exo a C (some d))) (ed : H2 d = some (exd d fs)) (hd1 : H1 d = none) (q : Q (.ref C) (some d) (upd (del H2 a) d (.xd fs))) : L2N.MkP X pins σ Q (.ref a) ⟨h2, g2, d2, t2, os2⟩ := by
  obtain ⟨t0, G, J, kG, ge, hoe, na⟩ := mk_end0 (d2 := d2) (t2 := t2) I1 ha k un hok ho hb ea ed hd1
  exact ⟨a, _, _, ⟨G, g2, d2, t2, os2⟩, _, .ref C, some d, rfl, J, kG, ge, hoe, ⟨rfl, rfl, fun vs hv => by cases hv; rfl⟩, rfl, rfl, na, rfl, hb, T, q⟩
theorem make_core {CX : CXT} {C fI : Addr} {k : Nat} {fd : FuncData} {ps : List Str} {sp : Sp} {ds : List Value} {dvs : List V} {pins : List (Addr × Obj)} {σ : L2.St} {H : Hp} {Q : XK} {s : Shared} {us : List Value} {vs : List V}
    (T : OexC X.K C) (iC : PySem.W.findIn X.K (.ref C) "__init__" = some (some (.ref fI))) (tI : PySem.W.typeIn X.K (.ref fI) = some (.type "function"))
    (F1 : FnOk X.prog X.w X.K X.mg X.base CX k fI fd ps sp) (hr : Room (k + 1) X.A) (hb : Binds X.K fd ps ds) (hd : Vals dvs ds) (hx : Passes CX X (fun _ _ _ => False)) (I : Inv X pins σ H s) (r1 : Vals vs us) (hz : vs.length ≤ 1000)
    (q1 : ∀ a, H a = none → sp (.ref a :: (vs ++ dvs)) (upd H a (exo a C none))
      (fun v H2 => v = .non ∧ ∃ (d : Addr) (fs : List (Str × V)), H2 a = some (exo a C (some d)) ∧ H2 d = some (exd d fs) ∧ H d = none ∧ Q (.ref C) (some d) (upd (del H2 a) d (.xd fs))) (fun _ _ _ => False)) :
    wpAny (model X.prog X.w) X.A (call (.ref C) us) (L2N.MkP X pins σ Q) X.xe s := by
  obtain ⟨nm, q, N, bs, bm, sn, sub, ab, col, dd, k0, k1, k2, k3, k5, hC, hbm⟩ := T.cls
  obtain ⟨hp, g, dr, tk, os⟩ := s
  have hsz : hp.objs.size ≤ hp.objs.size + 1 := Nat.le_succ _
  have hn : H (hp.objs.size + 1) = none := I.hok.fresh hsz
  have hq := q1 (hp.objs.size + 1) hn
  have kk : ∀ b o, hp.get? b = some o → ((hp.push (PySem.W.kdv_tup us)).push (PySem.HandSPX.excO C hp.objs.size)).get? b = some o := fun b o e => Heap.get?_push_of_some _ (Heap.get?_push_of_some _ e)
  have hget : ((hp.push (PySem.W.kdv_tup us)).push (PySem.HandSPX.excO C hp.objs.size)).get? (hp.objs.size + 1) = some (PySem.HandSPX.excO C hp.objs.size) := by heap_get
  have I2 : Inv X pins σ (upd H (hp.objs.size + 1) (exo (hp.objs.size + 1) C none)) ⟨(hp.push (PySem.W.kdv_tup us)).push (PySem.HandSPX.excO C hp.objs.size), g, dr, tk, os⟩ :=
    I.laid (t' := tk) (a := hp.objs.size + 1) (o := exo (hp.objs.size + 1) C none) (h' := (hp.push (PySem.W.kdv_tup us)).push (PySem.HandSPX.excO C hp.objs.size)) kk hsz (exo_ok hget)
  have r2 : Vals (V.ref (hp.objs.size + 1) :: (vs ++ dvs)) (Value.ref (hp.objs.size + 1) :: (us ++ ds)) := .cons rfl (r1.append hd)
  have hl : (Value.ref (hp.objs.size + 1) :: us ++ ds).length = ps.length := by
    have e := r2.length
    rw [F1.len _ _ _ _ hq] at e
    exact e.symm
  refine wpAny_call (PySem.HandSPX.call_own F.excBase_ValueError (fun Y => PySem.HandSPX.refsVE_contains Y bm hbm) (I.kIn _ _ hC) (PySem.W.looks_findIn I.kIn iC) (fun self => PySem.W.bind_fn I.kIn self tI) (by rw [← Paired.length r1, sizeLine_eq]; omega)
    (codeAny_mono (F1.run _ X.stack _ _ ⟨Value.ref (hp.objs.size + 1) :: us, []⟩ (Value.ref (hp.objs.size + 1) :: (us ++ ds)) _ _ (fun _ _ _ => False) (hr.make C us []) (I2.env0.make C us []) (show BindsTo _ fd ⟨Value.ref (hp.objs.size + 1) :: us, []⟩ (ps.zip (Value.ref (hp.objs.size + 1) :: (us ++ ds))) from hb _ (Value.ref (hp.objs.size + 1) :: us) I2.kIn hl) r2 hq) fun r s' hq' => ?_))
  cases r with
  | error er => exact hx pins σ _ _ er s' I2 hq'
  | ok fl =>
    cases fl with
    | ret u =>
      obtain ⟨v, H2, os2, bare2, un2, hok2, rv, ev, d, fs, ea, ed, hd1, q2⟩ := hq'
      subst ev
      obtain ⟨h2, g2, d2, t2, os'⟩ := s'
      exact ⟨rv, mk_endN (raises_own T.exC T.tyC) I hsz kk un2 hok2 os2 bare2 ea ed hd1 q2⟩
    | next => exact False.elim hq'
    | brk => exact False.elim hq'
    | cont => exact False.elim hq'
theorem pmk_oexN {CX : CXT} {x : Str} {e : Expr} {es : List Expr} {ta : TA} {p pos : Pos} {C fI : Addr} {k : Nat} {fd : FuncData} {ps : List Str} {sp : Sp} {ds : List Value} {dvs : List V} (T : OexC X.K C) (iC : PySem.W.findIn X.K (.ref C) "__init__" = some (some (.ref fI))) (tI : PySem.W.typeIn X.K (.ref fI) = some (.type "function"))
    (F1 : FnOk X.prog X.w X.K X.mg X.base CX k fI fd ps sp) (hr : Room (k + 1) X.A) (hb : Binds X.K fd ps ds) (hd : Vals dvs ds) (hx : Passes CX X (fun _ _ _ => False)) (hg : Gl X x) (hm : X.mg x = some (.ref C)) (ha : PA X (e :: es) ta)
    (hdb : (x == ("__debug__" : Str)) = false := by decide) (he : starEach (e :: es) X.env = (false, eval e X.env) :: starEach es X.env := by rfl) (hpl : (backTo pos (starEach es X.env)).any (·.1) = false := by rfl) :
    L2N.PMk X (.Call (.Name x p) (e :: es) [] pos) (tMkO C sp dvs ta) := by
  intro pins s σ H Q I h
  refine wpAny_Call_Name_kw (ld_glob I hg hm ?_ hdb)
  exact PySem.W.callWith_K (h₀ := X.base) I.ok.mod.kin T.kC (thn (ha.run pos pins s σ H _ I h) fun us s1 ⟨vs, H1, I1, r1, hz, q1⟩ => ⟨I1.kIn, make_core T iC tI F1 hr hb hd hx I1 r1 hz q1⟩) he hpl
theorem s_raise {x : Str} {k j : Nat} {e : Expr} {f : M O} {p pos pos' : Pos} (E : Er X.prog X.w X.K X.mg X.base k x) (hr : Room j X.A) (tk : L2N.Takes X W) (he : PE X e (tE X.K X.mg W f)) (hk : k + 1 ≤ j := by decide) (hc : X.calm = true := by rfl) (hg : Gl X x := by rfl)
    (hdb : (x == ("__debug__" : Str)) = false := by decide) (hs : starEach [e] X.env = (false, eval e X.env) :: starEach [] X.env := by rfl) (hpl : (backTo pos (starEach [] X.env)).any (·.1) = false := by rfl) :
    PS X (.Raise (some (.Call (.Name x p) [e] [] pos)) none pos') (tS X.K X.mg W ks (sRaise x f)) := by
  obtain ⟨C, fI, fd, ec, iC, tI, hC, F, b0, _⟩ := E.ex
  refine ps_imp (L2N.ps_raise hc tk (pmk_oexN (ds := []) (dvs := []) ec.T iC tI F (hr.mono hk) b0 .nil (L2N.passes_call tk fun _ _ _ _ z => z.elim) hg hC (is_c he is_n hs) hdb hs hpl)) fun D σ H h => ?_
  obtain ⟨B, e0, S, r, h⟩ := h
  refine items_run [f] _ r ((post_len h.bind).imp (fun ds e' h vs B1 H1 S1 r1 rl f1 => ?_) fun _ _ z => ExS.toE z)
  obtain ⟨h, hl⟩ := h
  match ds, rl, hl with
  | [d], .cons ry .nil, _ =>
    refine ⟨by simp, fun a ha => ⟨a, C, _, rfl, ec, upd_same, raise_end ec hC r1 f1 ry ha h⟩⟩
theorem tMk0 : True := trivial
theorem pmk_oex0 {CX : CXT} {x : Str} {p pos : Pos} {C fI : Addr} {k : Nat} {fd : FuncData} {ps : List Str} {sp : Sp} {ds : List Value} {dvs : List V} (T : OexC X.K C) (iC : PySem.W.findIn X.K (.ref C) "__init__" = some (some (.ref fI))) (tI : PySem.W.typeIn X.K (.ref fI) = some (.type "function"))
    (F1 : FnOk X.prog X.w X.K X.mg X.base CX k fI fd ps sp) (hr : Room (k + 1) X.A) (hb : Binds X.K fd ps ds) (hd : Vals dvs ds) (hx : Passes CX X (fun _ _ _ => False)) (hg : Gl X x) (hm : X.mg x = some (.ref C))
    (hdb : (x == ("__debug__" : Str)) = false := by decide) :
    L2N.PMk X (.Call (.Name x p) [] [] pos) (tMkO C sp dvs tNil) := by
  intro pins s σ H Q I h
  refine wpAny_Call_Name_kw (ld_glob I hg hm ?_ hdb)
  exact PySem.W.callWith_K0 I.kIn T.kC (make_core (vs := []) T iC tI F1 hr hb hd hx I .nil (by simp) h.2)
theorem s_raise0 {x : Str} {k j : Nat} {p pos pos' : Pos} (E : Er X.prog X.w X.K X.mg X.base k x) (hr : Room j X.A) (tk : L2N.Takes X W) (hk : k + 1 ≤ j := by decide) (hc : X.calm = true := by rfl) (hg : Gl X x := by rfl)
    (hdb : (x == ("__debug__" : Str)) = false := by decide) :
    PS X (.Raise (some (.Call (.Name x p) [] [] pos)) none pos') (tS X.K X.mg W ks (sRaise0 x)) := by
  obtain ⟨C, fI, fd, ec, iC, tI, hC, F, _, ds, vd, b0⟩ := E.ex
  refine ps_imp (L2N.ps_raise hc tk (pmk_oex0 (ds := ds) (dvs := [.non]) ec.T iC tI F (hr.mono hk) b0 vd (L2N.passes_call tk fun _ _ _ _ z => z.elim) hg hC hdb)) fun D σ H h => ?_
  obtain ⟨B, e0, S, r, h⟩ := h
  exact ⟨by simp, fun a ha => ⟨a, C, .non, rfl, ec, upd_same, raise_end ec hC r (Fr.refl _ _ _) .non ha h⟩⟩
end
end Dn

namespace Dn
open PySem L2
open Evl (Ex)

/-! ## 40. try .. except .. as .. -/
/-- behind a clause's suite: its name is gone; a suite that raises isn't covered -/
def wipeR (i : Nat) : Option (Ro Fl) → Option (Ro Fl)
  | some (.ok fl e) => some (.ok fl (e.set i none))
  | _ => none
/-- what a clause's suite gives, wherever the error stands -/
def Suits (i : Nat) (h : Addr → Addr → Exn → M Fl) (x : Exn) (e : Sl) (r : Ro Fl) : Prop := ∀ a d, wipeR i (h a d x (e.set i (some (.exn a d x)))) = some r
open Classical in
noncomputable def sTry (c : Str → Option Bool) (i : Nat) (body : M Fl) (h : Addr → Addr → Exn → M Fl) : M Fl := fun e => match body e with
  | some (.ex x e') => match c x.cls with
    | some true => if hh : ∃ r, Suits i h x e' r then some hh.choose else none
    | some false => some (.ex x e')
    | none => none
  | r => r
section
variable {K : PySem.W.Frag} {mg : Str → Option Value} {W : WX} {B B' H H' : Hp} {v x y : V} {o : O} {d : D} {σ σ' : St} {e e' : Sl} {S S' : Nat → Addr → Prop} {T T' : Addr → Prop} {ks : List Nat}
/-- the slots without what isn't theirs -/
theorem Rp.less (h : Rp K B H σ e S) {d : Addr} {fs : List (Str × V)} (hd : H d = some (.xd fs)) : Rp K B H σ e (fun j a => S j a ∧ a ≠ d) := by
  refine ⟨h.len, h.ex, fun i o ho => ?_, fun i j a h1 h2 => h.dis i j a h1.1 h2.1, fun i a h1 => h.own i a h1.1⟩
  obtain ⟨v, h1, h2⟩ := h.rep i o ho
  refine ⟨v, h1, h2.iff fun a => ⟨fun z => ⟨z, fun q => ?_⟩, fun z => z.1⟩⟩
  subst q
  cases o with
  | fr _ => exact h2.2 _ z
  | lst ds =>
    obtain ⟨p, xs, e, hp, hr, hs⟩ := h2
    rw [(hs _).mp z, hp] at hd; cases hd
  | dct kvs =>
    obtain ⟨p, xs, e, hp, hk, hr, hs⟩ := h2
    rw [(hs _).mp z, hp] at hd; cases hd
  | ins c ns xs =>
    obtain ⟨p, C, dx, fs, e, hp, hc, hk, hr, hs⟩ := h2
    rw [(hs _).mp z, hp] at hd; cases hd
  | exn _ _ _ => exact h2.2.2 _ z
  | tr t => exact RepT.kind h2 _ z _ hd
/-- slot i emptied on both sides -/
theorem Rp.gone (h : Rp K B H σ e S) (i : Nat) : Rp K B H (σ.set i none) (e.set i none) (fun j => if j = i then noS else S j) := by
  have f := h.forget i
  refine ⟨by rw [List.length_set, List.length_set]; exact h.len, f.ex, fun j o ho => ?_, f.dis, f.own⟩
  obtain ⟨w, h1, h2⟩ := f.rep j o ho
  by_cases hj : j = i
  · subst hj
    by_cases hl : j < e.length
    · rw [List.getElem?_set_self hl] at ho; cases ho
    · rw [List.getElem?_eq_none (by rw [List.length_set]; omega)] at ho; cases ho
  · exact ⟨w, by rw [List.getElem?_set_ne (Ne.symm hj)]; exact h1, h2⟩
theorem Vl.gone (h : Vl K B H σ e S v o T) (i : Nat) : Vl K B H (σ.set i none) (e.set i none) (fun j => if j = i then noS else S j) v o T :=
  ⟨h.rp.gone i, h.ro, h.own, fun a ha z => h.dj a ha (tot_forget z)⟩
end
section
variable {X : Cx} {W : WX} {ks : List Nat} {cv : Value} {c : Str → Option Bool} {i : Nat} {x n : Str} {body suite : List Stmt} {b₀ : Stmt} {np pos pos' : Pos} {gb : M Fl} {h : Addr → Addr → Exn → M Fl}
theorem s_try (hN : X.N.Nodup) (hi : X.N[i]? = some n) (hc : Names X x cv) (tk : L2N.Takes X W) (ht : ∀ y b C, c y = some b → X.mg y = some (.ref C) → PySem.W.exmOne X.K (.ref C) cv = some b)
    (hb : ∀ (W : WX) (pn : List (Addr × Obj)) (xe : Value → Shared → Prop), L2N.Takes (X.tr pn xe) W → PassesOwn (model X.prog X.w) X.A X.env xe → PSs (X.tr pn xe) body (tS X.K X.mg W ks gb))
    (hsu : ∀ (a : Addr) (oe : Obj) (C dd : Addr) (y : Exn) (pn : List (Addr × Obj)), X.mg y.cls = some (.ref C) → L2N.Zn (.ref C) (some dd) oe → (∃ vs, oe.data = .fields vs) →
      PSs (X.suite a ((a, oe) :: pn)) (b₀ :: suite) (tS X.K X.mg (fun _ _ _ _ => False) ks (h a dd y)))
    (hk : i ∉ ks := by decide) (hs : X.stack = X.env :: X.outer := by rfl) (hf : X.env.frame = some X.env.locals := by rfl) (hln : X.env.kindOf n = some .local := by rfl) :
    PS X (.Try body [.ExceptHandler (some (.Name x np)) (some n) (b₀ :: suite) pos'] [] [] pos) (tS X.K X.mg W ks (sTry c i gb h)) := by
  refine ps_imp (L2N.ps_try_as (c := cv) (Wout := W) (tb := fun W => tS X.K X.mg W ks gb)
    (ts := fun a cls d D σ H => ∃ (C dd : Addr) (y : Exn), cls = .ref C ∧ d = some dd ∧ X.mg y.cls = some (.ref C) ∧ tS X.K X.mg (fun _ _ _ _ => False) ks (h a dd y) D σ H)
    hs hf hN hi hln hc tk hb (fun a oe cls d pn hz hv => ⟨fun pins s σ H D I q => ?_⟩)) fun D σ H q => ?_
  · obtain ⟨C, dd, y, rfl, rfl, hC, q⟩ := q
    exact (hsu a oe C dd y pn hC hz hv).run pins s σ H D I q
  · obtain ⟨B, e, S, r, q⟩ := q
    refine ⟨B, e, S, r, ?_⟩
    change Post (sTry c i gb h e) (Nd X.K D ks B H S σ) (ExS X.K X.mg W ks B H S σ) at q
    change Post (gb e) (Nd X.K D ks B H S σ) (ExS X.K X.mg _ ks B H S σ)
    unfold sTry at q
    cases hg : gb e with
    | none => rw [hg] at q; exact q.elim
    | some ro =>
      rw [hg] at q
      cases ro with
      | ok fl e' => exact q
      | ex y e' =>
        intro C d fs σ' B' H' S' hC r' hd hx hn k' f'
        dsimp only at q
        cases hcy : c y.cls with
        | none => rw [hcy] at q; exact q.elim
        | some b =>
          rw [hcy] at q
          cases b with
          | false =>
            refine ⟨false, ht _ _ _ hcy hC, fun z => (nomatch z), fun _ => ?_⟩
            exact (show ExS X.K X.mg W ks B H S σ y e' from q) C d fs σ' B' H' S' hC r' hd hx hn k' f'
          | true =>
            refine ⟨true, ht _ _ _ hcy hC, fun _ a ha => ⟨C, d, y, rfl, rfl, hC, ?_⟩, fun z => (nomatch z)⟩
            dsimp only at q
            by_cases hh : ∃ r, Suits i h y e' r
            · rw [dif_pos hh] at q
              have sp := hh.choose_spec
              generalize hh.choose = rr at q sp
              have sp2 := sp a d
              have hB : Ex B' (upd B' d (.xd fs)) := fun b u z => by
                by_cases hb : b = d
                · subst hb; rw [upd_same]; exact (r'.ex _ _ z).symm.trans hd |>.symm ▸ rfl
                · rw [upd_ne hb]; exact z
              have hH : Ex (upd B' d (.xd fs)) H' := fun b u z => by
                by_cases hb : b = d
                · subst hb; rw [upd_same] at z; cases z; exact hd
                · rw [upd_ne hb] at z; exact r'.ex _ _ z
              have r1 : Rp X.K (upd B' d (.xd fs)) H' σ' e' (fun j a => S' j a ∧ a ≠ d) := (r'.less hd).bgrow hB hH fun j b z => by
                rw [upd_ne z.2]; exact (r'.own j b z.1).1
              have vl : Vl X.K (upd B' d (.xd fs)) H' σ' e' (fun j a => S' j a ∧ a ≠ d) (.ref a) (.exn a d y) noS :=
                ⟨r1, ⟨rfl, ⟨fs, upd_same, hx.mono hB⟩, fun _ z => z⟩, own_no, fun _ z => z.elim⟩
              have f2 : Fr B H (tot S) (upd B' d (.xd fs)) H' (tot (fun j => if j = i then (if i < e'.length then noS else noS) else fun a => S' j a ∧ a ≠ d)) := by
                refine ⟨f'.b.trans hB, f'.k, fun b z => f'.n b ?_, fun b u z => ?_, f'.a⟩
                · rcases tot_set z with z | ⟨j, z⟩
                  · exact z.elim
                  · exact ⟨j, z.1⟩
                · by_cases hb : b = d
                  · subst hb; exact .inr (.inr hn)
                  · rw [upd_ne hb] at z; exact f'.c _ _ z
              have k2 : Kp ks σ (σ'.set i (some (.ref a))) := k'.trans (Kp.set hk)
              refine ⟨_, _, _, vl.set i, ?_⟩
              change Post (h a d y (e'.set i (some (.exn a d y)))) _ _
              cases hq : h a d y (e'.set i (some (.exn a d y))) with
              | none => rw [hq] at sp2; cases sp2
              | some ro2 =>
                rw [hq] at sp2
                cases ro2 with
                | ex _ _ => cases sp2
                | ok fl e3 =>
                  cases sp2
                  have q' : Nd X.K D ks B H S σ fl (e3.set i none) := q
                  cases fl with
                  | next => exact fun σ4 B4 H4 S4 r4 k4 f4 => q' (σ4.set i none) B4 H4 _ (r4.gone i) ((k2.trans k4).trans (Kp.set hk)) ((f2.trans f4).imp (fun _ z => z) fun _ z => tot_forget z)
                  | brk => exact fun σ4 B4 H4 S4 r4 k4 f4 => q' (σ4.set i none) B4 H4 _ (r4.gone i) ((k2.trans k4).trans (Kp.set hk)) ((f2.trans f4).imp (fun _ z => z) fun _ z => tot_forget z)
                  | cnt => exact fun σ4 B4 H4 S4 r4 k4 f4 => q' (σ4.set i none) B4 H4 _ (r4.gone i) ((k2.trans k4).trans (Kp.set hk)) ((f2.trans f4).imp (fun _ z => z) fun _ z => tot_forget z)
                  | ret o => exact fun v σ4 B4 H4 S4 T vl4 k4 f4 => q' v (σ4.set i none) B4 H4 _ T (vl4.gone i) ((k2.trans k4).trans (Kp.set hk)) ((f2.trans f4).imp (fun _ z => z) fun _ z => z.elim .inl fun z => .inr (tot_forget z))
            · rw [dif_neg hh] at q; exact q.elim
end

/-! ## 41. What a clause's suite asks of its error -/
/-- y.word, y.place: cs the classes that are known -/
def eXf (cs : List Str) (a d : Addr) (y : Exn) (i : Nat) (f : Str) : M O := fun e => if y.cls ∈ cs then match e[i]? with
  | some (some (.exn a' d' z)) => if a' = a ∧ d' = d then (z.fs.lookup f).map fun u => .ok (.fr u) e else none
  | _ => none
  else none
/-- isinstance(y, t) -/
def eXi (t : Str → Option Bool) (a d : Addr) (y : Exn) (i : Nat) : M O := fun e => match e[i]? with
  | some (some (.exn a' d' z)) => if a' = a ∧ d' = d then (t y.cls).map fun b => .ok (bO b) e else none
  | _ => none
/-- what the written part says of the classes cs -/
structure XfT (K : PySem.W.Frag) (mg : Str → Option Value) (cs : List Str) : Prop where
  of : ∀ y ∈ cs, ∀ C, mg y = some (.ref C) → XfC K C ∧ PySem.W.findIn K (.ref C) "word" = some none ∧ PySem.W.findIn K (.ref C) "place" = some none
theorem xf_lookup {K : PySem.W.Frag} {B : Hp} {f : Str} : ∀ {fs : List (Str × V)} {gs : List (Str × D)} {d : D}, XF K B fs gs → gs.lookup f = some d → ∃ v, fs.lookup f = some v ∧ Rep K B v d
  | _, _, _, .nil, h => by cases h
  | p :: fs, q :: gs, d, .cons hpq hr, h => by
    obtain ⟨a, v⟩ := p
    obtain ⟨b, u⟩ := q
    obtain ⟨e, r⟩ := hpq
    dsimp only at e r
    subst e
    rw [List.lookup_cons] at h ⊢
    split at h
    · cases h; exact ⟨v, rfl, r⟩
    · exact xf_lookup hr h
section
variable {X : Cx} {W : WX} {a C dd : Addr} {oe : Obj} {pn : List (Addr × Obj)} {y : Exn} {i : Nat} {n : Str} {pos p p1 p2 : Pos} {cs : List Str}
theorem d_xf {f : Str} (T : XfT X.K X.mg cs) (hf' : f = "word" ∨ f = "place") (hC : X.mg y.cls = some (.ref C)) (hz : L2N.Zn (.ref C) (some dd) oe) (hf : ∃ vs, oe.data = .fields vs) (hv : PE (X.suite a ((a, oe) :: pn)) (.Name n p) (tVar i))
    (hb : attributeBase (.Name n p) f X.env (eval (.Name n p) X.env) = eval (.Name n p) X.env := by rfl) :
    PE (X.suite a ((a, oe) :: pn)) (.Attribute (.Name n p) f pos) (tE X.K X.mg W (eXf cs a dd y i f)) := by
  refine ⟨fun pins s σ H Q I h => ?_⟩
  obtain ⟨B, e, S, r, h⟩ := h
  unfold eXf at h
  by_cases hy : y.cls ∈ cs
  · rw [if_pos hy] at h
    obtain ⟨xc, nw, np⟩ := T.of _ hy _ hC
    have hno : PySem.W.findIn X.K (.ref C) f = some none := by
      rcases hf' with rfl | rfl
      · exact nw
      · exact np
    refine (pe_xf xc hno hz.zc hf hv hb).run pins s σ H Q I ?_
    split at h
    · rename_i a' d' z hz'
      split at h
      · rename_i had
        obtain ⟨rfl, rfl⟩ := had
        cases hl : z.fs.lookup f with
        | none => rw [hl] at h; exact h.elim
        | some u =>
          rw [hl] at h
          obtain ⟨v, hv', rv, ⟨fs, hd, hx⟩, _⟩ := r.rep i _ hz'
          obtain ⟨w, lw, rw'⟩ := xf_lookup hx hl
          subst rv
          have h' : ∀ v B' H' S' T, Vl X.K B' H' σ e S' v (.fr u) T → Fr B H (tot S) B' H' (fun a => T a ∨ tot S' a) → Q v H' := h
          exact ⟨_, hv', rfl, rfl, d', fs, w, rfl, r.ex _ _ hd, lw, h' w B H S noS (.fr r rw') ((Fr.refl _ _ _).imp (fun _ z => z) fun a z => z.elim (fun z => z.elim) id)⟩
      · exact h.elim
    · exact h.elim
  · rw [if_neg hy] at h; exact h.elim
/-- what isinstance asks of the classes: cv stands for the class t asked for -/
structure XiT (K : PySem.W.Frag) (mg : Str → Option Value) (t : Str → Option Bool) (cv : Value) : Prop where
  of : ∀ y b, t y = some b → ∀ C, mg y = some (.ref C) → ExcC K C ∧ PySem.W.kitOne K (.ref C) cv = some b
theorem call_isX {D d : Addr} {gt : Option Value} (E : ExcC X.K D) (hz : L2N.Zn (.ref D) (some d) oe) (hf : ∃ vs, oe.data = .fields vs) :
    CallR (X.suite a ((a, oe) :: pn)) (.builtin "isinstance") (fun xs H Q => (∃ fs, H d = some (.xd fs)) ∧ rIsE X.K D a xs H Q) := by
  intro pins s σ H xs us Q I r h
  obtain ⟨⟨fs, hd⟩, c, cv, b, rfl, hcv, e, q⟩ := h
  cases r with
  | cons rx rr =>
    cases rr with
    | cons rt rr =>
      cases rr
      cases rx
      have ec := hcv _ rt
      subst ec
      obtain ⟨hget, _⟩ := I.pin (a, oe) (List.mem_append.mpr (.inl List.mem_cons_self))
      obtain ⟨vs, hv⟩ := hf
      have hx : ObjOk X.prog X.w H s.heap d (.xd fs) := I.hok d _ hd
      obtain ⟨mA, hns, hr⟩ := hx
      obtain ⟨od, ho, hl⟩ := lookIn_ns hns
      have J : PySem.W.InstAt s.heap a oe D (some od) := ⟨hget, hz.1, by unfold PySem.W.notCls; rw [hv] <;> rfl, by rw [hz.2.1]; exact ho⟩
      have hcl : (PySem.W.clsIn X.K D).isSome = true := by obtain ⟨cd, hc, _⟩ := PySem.W.any_some E.hd; rw [hc]; rfl
      exact PySem.W.kia_one (PySem.W.kitx_exc hcl E.hg E.hk E.hs E.ha E.hn E.ht E.hm) I.kIn J e (fun z => nomatch z) fun tk => ⟨.bl b, H, I.kept (t' := tk) fun _ _ z => z, rfl, q⟩
theorem d_xi {t : Str → Option Bool} {cv : Value} {c : V} {x : Str} (T : XiT X.K X.mg t cv) (hC : X.mg y.cls = some (.ref C)) (hz : L2N.Zn (.ref C) (some dd) oe) (hf : ∃ vs, oe.data = .fields vs) (hv : PE (X.suite a ((a, oe) :: pn)) (.Name n p) (tVar i))
    (hg : Gl X "isinstance") (hm : X.mg "isinstance" = none) (hvi : bootBuiltins "isinstance" = some (.builtin "isinstance")) (hcl : PE (X.suite a ((a, oe) :: pn)) (.Name x p2) (tC c)) (hcv : ∀ u, RelV c u → u = cv)
    (hs1 : starEach (.Name n p :: [.Name x p2]) X.env = (false, eval (.Name n p) X.env) :: starEach [.Name x p2] X.env := by rfl) (hs2 : starEach (.Name x p2 :: []) X.env = (false, eval (.Name x p2) X.env) :: starEach [] X.env := by rfl)
    (hpl : (backTo pos (starEach [.Name x p2] X.env)).any (·.1) = false := by rfl) : PE (X.suite a ((a, oe) :: pn)) (.Call (.Name "isinstance" p1) [.Name n p, .Name x p2] [] pos) (tE X.K X.mg W (eXi t a dd y i)) := by
  refine ⟨fun pins s σ H Q I h => ?_⟩
  obtain ⟨B, e, S, r, h⟩ := h
  unfold eXi at h
  split at h
  · rename_i a' d' z hz'
    split at h
    · rename_i had
      obtain ⟨rfl, rfl⟩ := had
      cases hl : t y.cls with
      | none => rw [hl] at h; exact h.elim
      | some b =>
        rw [hl] at h
        obtain ⟨E, hk⟩ := T.of _ _ hl _ hC
        obtain ⟨v, hv', rv, ⟨fs, hd, hx⟩, _⟩ := r.rep i _ hz'
        subst rv
        have h' : ∀ v B' H' S' T, Vl X.K B' H' σ e S' v (bO b) T → Fr B H (tot S) B' H' (fun a => T a ∨ tot S' a) → Q v H' := h
        refine (pe_callB (call_isX (gt := none) E hz hf) hg hm hvi (pa_cons hv (pa_cons hcl pa_nil hs2) hs1) (by decide) (by decide) hs1 hpl).run pins s σ H Q I ?_
        exact ⟨_, hv', ⟨fs, r.ex _ _ hd⟩, c, cv, b, rfl, hcv, hk, h' _ B H S noS (.fr r (.bl b)) ((Fr.refl _ _ _).imp (fun _ z => z) fun a z => z.elim (fun z => z.elim) id)⟩
    · exact h.elim
  · exact h.elim
end
end Dn

namespace Dn
open PySem L2
open PyProof.Rows (envOfC)
open Evl (Ex)
open ClX

/-! ## 42. Classes of errors by tables, as the walk's text has them -/
/-- the table of a class: which classes are under it -/
def isaL (l : List (Str × Bool)) : Str → Option Bool := fun y => l.lookup y
theorem isa_all {P : Str → Bool → Prop} : ∀ {l : List (Str × Bool)}, (∀ p ∈ l, P p.1 p.2) → ∀ y b, isaL l y = some b → P y b
  | [], _, _, _, h => by cases h
  | p :: l, ha, y, b, h => by
    have h' : (p :: l).lookup y = some b := h
    rw [show p :: l = (p.1, p.2) :: l from rfl, List.lookup_cons] at h'
    split at h'
    · rename_i e
      cases h'
      rw [eq_of_beq e]
      exact ha p List.mem_cons_self
    · exact isa_all (fun q hq => ha q (List.mem_cons_of_mem _ hq)) y b h'
/-- a class that an except clause or isinstance names -/
structure Ec (K : PySem.W.Frag) (mg : Str → Option Value) (l : List (Str × Bool)) (x : Str) : Prop where
  ex : ∃ C, mg x = some (.ref C) ∧ ∀ y b, isaL l y = some b → ∀ C', mg y = some (.ref C') → PySem.W.exmOne K (.ref C') (.ref C) = some b
structure Ic (K : PySem.W.Frag) (mg : Str → Option Value) (l : List (Str × Bool)) (x : Str) : Prop where
  ex : ∃ C, mg x = some (.ref C) ∧ XiT K mg (isaL l) (.ref C)
structure Ib (K : PySem.W.Frag) (mg : Str → Option Value) (l : List (Str × Bool)) (x : Str) (T : String) : Prop where
  no : mg x = none
  bt : bootBuiltins x = some (.type T)
  of : XiT K mg (isaL l) (.type T)
section
variable {X : Cx} {W : WX} {a C dd : Addr} {oe : Obj} {pn : List (Addr × Obj)} {y : Exn} {i : Nat} {n x : Str} {pos p p1 p2 : Pos} {l : List (Str × Bool)}
theorem d_xic (T : Ic X.K X.mg l x) (hm : X.mg "isinstance" = none) (hvi : bootBuiltins "isinstance" = some (.builtin "isinstance")) (hC : X.mg y.cls = some (.ref C)) (hz : L2N.Zn (.ref C) (some dd) oe) (hf : ∃ vs, oe.data = .fields vs) (hv : PE (X.suite a ((a, oe) :: pn)) (.Name n p) (tVar i))
    (hg : Gl X "isinstance" := by rfl) (hgx : Gl X x := by rfl) (hdb : (x == ("__debug__" : Str)) = false := by decide)
    (hs1 : starEach (.Name n p :: [.Name x p2]) X.env = (false, eval (.Name n p) X.env) :: starEach [.Name x p2] X.env := by rfl) (hs2 : starEach (.Name x p2 :: []) X.env = (false, eval (.Name x p2) X.env) :: starEach [] X.env := by rfl)
    (hpl : (backTo pos (starEach [.Name x p2] X.env)).any (·.1) = false := by rfl) : PE (X.suite a ((a, oe) :: pn)) (.Call (.Name "isinstance" p1) [.Name n p, .Name x p2] [] pos) (tE X.K X.mg W (eXi (isaL l) a dd y i)) := by
  obtain ⟨D, hm2, T⟩ := T.ex
  exact d_xi T hC hz hf hv hg hm hvi (pe_glob (X := X.suite a ((a, oe) :: pn)) (v := .ref D) hgx hm2 rfl hdb) (fun u h => h) hs1 hs2 hpl
theorem d_xib {T : String} (B : Ib X.K X.mg l x T) (hm : X.mg "isinstance" = none) (hvi : bootBuiltins "isinstance" = some (.builtin "isinstance")) (hC : X.mg y.cls = some (.ref C)) (hz : L2N.Zn (.ref C) (some dd) oe) (hf : ∃ vs, oe.data = .fields vs) (hv : PE (X.suite a ((a, oe) :: pn)) (.Name n p) (tVar i))
    (hg : Gl X "isinstance" := by rfl) (hgx : Gl X x := by rfl) (hn : x ≠ "__name__" := by decide) (hdb : (x == ("__debug__" : Str)) = false := by decide)
    (hs1 : starEach (.Name n p :: [.Name x p2]) X.env = (false, eval (.Name n p) X.env) :: starEach [.Name x p2] X.env := by rfl) (hs2 : starEach (.Name x p2 :: []) X.env = (false, eval (.Name x p2) X.env) :: starEach [] X.env := by rfl)
    (hpl : (backTo pos (starEach [.Name x p2] X.env)).any (·.1) = false := by rfl) : PE (X.suite a ((a, oe) :: pn)) (.Call (.Name "isinstance" p1) [.Name n p, .Name x p2] [] pos) (tE X.K X.mg W (eXi (isaL l) a dd y i)) :=
  d_xi B.of hC hz hf hv hg hm hvi (pe_bltn (X := X.suite a ((a, oe) :: pn)) (v := .ty T) hgx B.no B.bt rfl hn hdb) (fun u h => h) hs1 hs2 hpl
end
section
variable {X : Cx} {W : WX} {ks : List Nat} {i : Nat} {x n : Str} {body suite : List Stmt} {b₀ : Stmt} {np pos pos' : Pos} {gb : M Fl} {h : Addr → Addr → Exn → M Fl} {l : List (Str × Bool)}
theorem s_tryc (hN : X.N.Nodup) (hi : X.N[i]? = some n) (E : Ec X.K X.mg l x) (tk : L2N.Takes X W)
    (hb : ∀ (W : WX) (pn : List (Addr × Obj)) (xe : Value → Shared → Prop), L2N.Takes (X.tr pn xe) W → PassesOwn (model X.prog X.w) X.A X.env xe → PSs (X.tr pn xe) body (tS X.K X.mg W ks gb))
    (hsu : ∀ (a : Addr) (oe : Obj) (C dd : Addr) (y : Exn) (pn : List (Addr × Obj)), X.mg y.cls = some (.ref C) → L2N.Zn (.ref C) (some dd) oe → (∃ vs, oe.data = .fields vs) →
      PSs (X.suite a ((a, oe) :: pn)) (b₀ :: suite) (tS X.K X.mg (fun _ _ _ _ => False) ks (h a dd y)))
    (hk : i ∉ ks := by decide) (hs : X.stack = X.env :: X.outer := by rfl) (hf : X.env.frame = some X.env.locals := by rfl) (hln : X.env.kindOf n = some .local := by rfl) (hg : Gl X x := by rfl) (hdb : (x == ("__debug__" : Str)) = false := by decide) :
    PS X (.Try body [.ExceptHandler (some (.Name x np)) (some n) (b₀ :: suite) pos'] [] [] pos) (tS X.K X.mg W ks (sTry (isaL l) i gb h)) := by
  obtain ⟨C, hm, hx⟩ := E.ex
  exact s_try hN hi ⟨hg, hdb, .inl hm⟩ tk (fun y b C h => hx y b h C) hb hsu hk hs hf hln
end
/-- the first of the error classes -/
structure Er0 (P : Program) (w : World) (K : PySem.W.Frag) (mg : Str → Option Value) (base : Heap) (k : Nat) (x : Str) : Prop where
  ex : ∃ (C f : Addr) (fd : FuncData), mg x = some (.ref C) ∧ CRead K C (.type "type") ∧ PySem.W.findCls K (.ref C) (.type "type") "__init__" = some (.val (.ref f)) ∧ PySem.W.keepIn K (.ref f) = true ∧
    FnOk P w K mg base (L2N.CX P w) k f fd ["self", "word", "place"] (spT K) ∧ Binds K fd ["self", "word", "place"] []
section
variable {P : Program} {w : World} {K : PySem.W.Frag} {mg : Str → Option Value} {base : Heap}
theorem ok_initC {x0 qual x : Str} {st : Stmt} {f : Addr} {fd : FuncData} {k : Nat} (F : FunX K "__init__" qual st f fd) (Sc : FnScope ["self", "place"] ["self", "place"] (defScope st)) (E0 : Er0 P w K mg base k x0)
    (hb : ∀ (C f0 : Addr) (fd0 : FuncData), mg x0 = some (.ref C) → CRead K C (.type "type") → PySem.W.findCls K (.ref C) (.type "type") "__init__" = some (.val (.ref f0)) → PySem.W.keepIn K (.ref f0) = true →
      FnOk P w K mg base (L2N.CX P w) k f0 fd0 ["self", "word", "place"] (spT K) → Binds K fd0 ["self", "word", "place"] [] →
      ∀ (cdv : Value) (A : Around) (outer : List PySem.Env) (s : Shared) (H : Hp) (E : XK), Room k (A.deeper (envOfC qual (defScope st) s.heap.objs.size f cdv)) → L2N.Takes (cxOf (L2N.CX P w) P w K mg base ["self", "place"] qual (defScope st) f cdv A outer s H E) (fun cls d _ H => E cls d H) →
      PSs (cxOf (L2N.CX P w) P w K mg base ["self", "place"] qual (defScope st) f cdv A outer s H E) (defBody st) (tDrop (tCall (spT K) [] (fun _ _ _ => False) (tCons (tVar 0) (tCons (tC (.str x)) (tCons (tVar 1) tNil)))))) :
    FnOk P w K mg base (L2N.CX P w) (k + 1) f fd ["self", "place"] (spB K x) := by
  obtain ⟨C, f0, fd0, h1, h2, h3, h4, h5, h6⟩ := E0.ex
  exact ok_initB F Sc fun cdv A outer s H E hr => hb C f0 fd0 h1 h2 h3 h4 h5 h6 cdv A outer s H E hr (L2N.takes_of rfl rfl rfl rfl)
/-- a def with defaults, its text told -/
theorem funD_mk {x qual : Str} {st : Stmt} {f T : Addr} {oc : Value} {od an : Option Addr} {osl : Array (Option Value)} {kV doc pm cdv ct : Value} {its : List Value} {n : Nat} {dd : Option Addr} {sl : Array (Option Value)} {dvs : List V}
    (l : K.lookup f = some ⟨oc, od, .func (PySem.W.fnOf x qual (defArgs st) (defBody st) (defScope st) (.ref T) kV doc pm an cdv ct), osl⟩) (c : PySem.W.codeIn K cdv qual = true) (k : PySem.W.keepIn K (.ref f) = true)
    (lT : K.lookup T = some ⟨.type "tuple", dd, .seq its.toArray n, sl⟩) (r : Vals dvs its) (hd : dvs ≠ []) : FunD K x qual (defArgs st) (defBody st) (defScope st) dvs [] f (PySem.W.fnOf x qual (defArgs st) (defBody st) (defScope st) (.ref T) kV doc pm an cdv ct) :=
  ⟨⟨oc, od, .ref T, kV, doc, pm, an, cdv, ct, osl, rfl, l, c, .inr ⟨hd, T, _, its, n, rfl, lT, rfl, r⟩, .inl rfl⟩, k⟩
theorem funX_mk {x qual : Str} {st : Stmt} {f : Addr} {dV : Value} {oc : Value} {od an : Option Addr} {osl : Array (Option Value)} {kV doc pm cdv ct : Value}
    (l : K.lookup f = some ⟨oc, od, .func (PySem.W.fnOf x qual (defArgs st) (defBody st) (defScope st) dV kV doc pm an cdv ct), osl⟩) (c : PySem.W.codeIn K cdv qual = true) : FunX K x qual st f (PySem.W.fnOf x qual (defArgs st) (defBody st) (defScope st) dV kV doc pm an cdv ct) :=
  ⟨⟨oc, od, dV, kV, doc, pm, an, cdv, ct, osl, rfl, l, c⟩⟩
theorem cl_mkD {k n : Nat} {x : Str} {F : Fn} {f : Addr} {fd : FuncData} {ps : List Str} {dvs : List V} {dv : List D} (h : FnOk P w K mg base (L2N.CX P w) k f fd ps (spD K mg n F)) (hm : mg x = some (.ref f)) (hk : PySem.W.keepIn K (.ref f) = true) (hb : ∃ ds, Vals dvs ds ∧ Binds K fd ps ds) (hr : ∀ B, RepL K B dvs dv) (hn : ps.length = n := by rfl) : Cl P w K mg base k x n F dv := by
  obtain ⟨ds, h1, h2⟩ := hb
  exact ⟨f, fd, ps, ds, dvs, hn, by rw [hn]; exact h, hm, hk, h2, h1, hr⟩
/-- an empty tuple of the module's -/
theorem rep_unit {B : Hp} {U : Addr} {dd : Option Addr} {n : Nat} {sl : Array (Option Value)} (l : K.lookup U = some ⟨.type "tuple", dd, .seq #[] n, sl⟩) : Rep K B (.ref U) (.tup []) :=
  .tup (.inr ⟨Nat.zero_le _, .inr ⟨_, #[], n, l, rfl, rfl, Nat.zero_le _, .nil⟩⟩) .nil
theorem er_mk {x : Str} {k : Nat} {C fI : Addr} {fd : FuncData} (e : ErC K C) (iC : PySem.W.findIn K (.ref C) "__init__" = some (some (.ref fI))) (tI : PySem.W.typeIn K (.ref fI) = some (.type "function")) (hm : mg x = some (.ref C))
    (F : FnOk P w K mg base (L2N.CX P w) k fI fd ["self", "place"] (spB K x)) (b1 : ∃ ds, Vals (([.non] : List V).drop 1) ds ∧ Binds K fd ["self", "place"] ds) (b0 : ∃ ds, Vals (([.non] : List V).drop 0) ds ∧ Binds K fd ["self", "place"] ds) : Er P w K mg base k x := by
  obtain ⟨ds, h1, h2⟩ := b1
  cases h1
  exact ⟨C, fI, fd, e, iC, tI, hm, F, h2, b0⟩
theorem er0_mk {x : Str} {k : Nat} {C f : Addr} {fd : FuncData} (hm : mg x = some (.ref C)) (rd : PySem.W.readsIn K C (.type "type") = true) (ga : PySem.W.specialIn K (.ref C) "__getattribute__" = some (some (.builtin "type.__getattribute__")))
    (cf : PySem.W.findCls K (.ref C) (.type "type") "__init__" = some (.val (.ref f))) (hk : PySem.W.keepIn K (.ref f) = true) (F : FnOk P w K mg base (L2N.CX P w) k f fd ["self", "word", "place"] (spT K)) (b : ∃ ds, Vals (([.non] : List V).drop 1) ds ∧ Binds K fd ["self", "word", "place"] ds) : Er0 P w K mg base k x := by
  obtain ⟨ds, h1, h2⟩ := b
  cases h1
  exact ⟨C, f, fd, hm, ⟨rd, ga⟩, cf, hk, F, h2⟩
/-- what the text tells of an error class -/
structure Ek (K : PySem.W.Frag) (mg : Str → Option Value) (x : Str) (C : Addr) : Prop where
  hm : mg x = some (.ref C)
  er : ErC K C
  xf : XfC K C
  ec : ExcC K C
theorem ek_mk {x : Str} {C : Addr} {nm q : Str} {N : Addr} {bs bm : List Value} {sn : List Str} {sub : List Value} {ab : Bool} {col : Option Bool} {dd : Option Addr} {m0 m1 m2 m3 m5 : Option Value} (hm : mg x = some (.ref C))
    (xL : K.lookup C = some (excClassObj nm q C N bs bm true sn sub ab col dd m0 m1 m2 m3 m5 "ValueError.__new__")) (hbm : PySem.HandSPX.refsVE bm = true)
    (sa : PySem.W.findIn K (.ref C) "__setattr__" = some (some (.builtin "object.__setattr__"))) (ga : PySem.W.findIn K (.ref C) "__getattribute__" = some (some (.builtin "BaseException.__getattribute__"))) (gg : PySem.W.findIn K (.ref C) "__getattr__" = some none)
    (nW : PySem.W.findIn K (.ref C) "word" = some none) (nP : PySem.W.findIn K (.ref C) "place" = some none) (kC : PySem.W.keepIn K (.ref C) = true) (eC : PySem.W.subIn K (.ref C) (.type "BaseException") = some true) (tC : PySem.W.typeIn K (.ref C) = some (.type "type")) (hC : PySem.W.hasDictIn K C = true)
    (ca : PySem.W.findIn K (.ref C) "__class__" = some (some (.builtin "object.__class__"))) (hn : PySem.W.specialIn K (.builtin "object.__class__") "__get__" = some (some (.builtin "getset_descriptor.__get__"))) (ht : PySem.W.takesIn K (.builtin "object.__class__") = some true) (mo : PySem.W.mroIn K C (.type "object") = some true) : Ek K mg x C :=
  ⟨hm, ⟨⟨⟨nm, q, N, bs, bm, sn, sub, ab, col, dd, m0, m1, m2, m3, m5, xL, hbm⟩, sa, eC, tC, kC⟩, nW, nP⟩, ⟨ga, gg, eC, hC⟩, ⟨ga, gg, eC, hC, ca, hn, ht, mo⟩⟩
theorem ek_only {x : Str} {C C' : Addr} (h : Ek K mg x C) (h' : mg x = some (.ref C')) : C' = C := by
  rw [h.hm] at h'
  cases h'
  rfl
/-- a row of a table -/
theorem row_e {x : Str} {C D : Addr} {b : Bool} (h : Ek K mg x C) (hD : PySem.W.subIn K (.ref D) (.type "BaseException") = some true) (hd : PySem.W.hasDictIn K D = true) (tD : PySem.W.typeIn K (.ref D) = some (.type "type")) (s : PySem.W.subIn K (.ref C) (.ref D) = some b) :
    ∀ C', mg x = some (.ref C') → PySem.W.exmOne K (.ref C') (.ref D) = some b := fun C' h' => by
  rw [ek_only h h']
  exact PySem.W.exm_ref hD hd tD s
theorem row_i {x : Str} {C : Addr} {cv : Value} {b : Bool} (h : Ek K mg x C) (s : PySem.W.kitOne K (.ref C) cv = some b) : ∀ C', mg x = some (.ref C') → ExcC K C' ∧ PySem.W.kitOne K (.ref C') cv = some b := fun C' h' => by
  rw [ek_only h h']
  exact ⟨h.ec, s⟩
theorem kit_c {C D : Addr} {b : Bool} (hd : PySem.W.hasDictIn K D = true) (tD : PySem.W.typeIn K (.ref D) = some (.type "type")) (s : PySem.W.subIn K (.ref C) (.ref D) = some b) (r : PySem.W.subIn K (.ref D) (.ref D) = some true) : PySem.W.kitOne K (.ref C) (.ref D) = some b := by
  unfold PySem.W.kitOne
  by_cases h : (Value.ref C == Value.ref D) = true
  · rw [if_pos h]
    have e : Value.ref C = Value.ref D := by simpa using h
    rw [e, r] at s
    exact s
  · rw [if_neg h]
    obtain ⟨cd, hc, _⟩ := PySem.W.any_some hd
    show (if ((PySem.W.clsIn K D).isSome && PySem.W.typeIn K (.ref D) == some (.type "type")) = true then PySem.W.subIn K (.ref C) (.ref D) else none) = some b
    rw [if_pos (by rw [hc, tD] <;> rfl)]
    exact s
theorem kit_b {C : Addr} {T : String} {b : Bool} (hk : PySem.W.kitMeta T = true) (s : PySem.W.subIn K (.ref C) (.type T) = some b) : PySem.W.kitOne K (.ref C) (.type T) = some b := by
  unfold PySem.W.kitOne
  rw [if_neg (by simp)]
  show (if PySem.W.kitMeta T = true then PySem.W.subIn K (.ref C) (.type T) else none) = some b
  rw [if_pos hk]
  exact s
theorem row_x {x : Str} {C : Addr} (h : Ek K mg x C) : ∀ C', mg x = some (.ref C') → XfC K C' ∧ PySem.W.findIn K (.ref C') "word" = some none ∧ PySem.W.findIn K (.ref C') "place" = some none := fun C' h' => by
  rw [ek_only h h']
  exact ⟨h.xf, h.er.nW, h.er.nP⟩
end
theorem all_n {α : Type} {P : α → Prop} : ∀ x ∈ ([] : List α), P x := fun _ h => by cases h
theorem all_c {α : Type} {P : α → Prop} {a : α} {l : List α} (h : P a) (hs : ∀ x ∈ l, P x) : ∀ x ∈ a :: l, P x := fun x hx => by
  rcases List.mem_cons.mp hx with rfl | hx
  · exact h
  · exact hs x hx
end Dn

namespace Dn
open PySem L2

/-! ## 43. Errors evaluated -/
theorem sRaise0_a (x : Str) (e : Sl) : sRaise0 x e = some (.ex ⟨x, xfs x .non⟩ e) := nr rfl
theorem sRaise_a (x : Str) (f : M O) (e : Sl) : sRaise x f e = @thn' _ _ (f e) ⟨fun o e' => some (.ex ⟨x, xfs x o.d⟩ e')⟩ := by
  unfold sRaise items items M.bind M.pure
  cases f e with
  | none => rfl
  | some r => cases r <;> rfl
/-- where a body's error goes -/
def HandP (c : Str → Option Bool) (i : Nat) (h : Addr → Addr → Exn → M Fl) [Q : PostE Fl] [X : PostE Exn] (x : Exn) (e : Sl) : Prop := match c x.cls with
  | some true => ∃ r, Suits i h x e r ∧ @EvC _ (some r) Q X
  | some false => X.run x e
  | none => False
def HandT (i : Nat) (h : Addr → Addr → Exn → M Fl) [Q : PostE Fl] [X : PostE Exn] (x : Exn) (e : Sl) : Prop := ∃ r, Suits i h x e r ∧ @EvC _ (some r) Q X
theorem Suits.one {i : Nat} {h : Addr → Addr → Exn → M Fl} {x : Exn} {e : Sl} {r r' : Ro Fl} (a : Suits i h x e r) (b : Suits i h x e r') : r = r' := by
  have := (a 0 0).symm.trans (b 0 0)
  injection this
theorem Ev_sTry {c : Str → Option Bool} {i : Nat} {b : M Fl} {h : Addr → Addr → Exn → M Fl} {e : Sl} {Q : PostE Fl} {X : PostE Exn} :
    @EvC _ (sTry c i b h e) Q X = @EvC _ (b e) Q ⟨fun x e' => HandP c i h x e'⟩ := by
  unfold sTry
  cases b e with
  | none => rfl
  | some r =>
    cases r with
    | ok a e' => rfl
    | ex x e' =>
      show _ = HandP c i h x e'
      unfold HandP
      dsimp only
      cases c x.cls with
      | none => rfl
      | some t =>
        cases t with
        | false => rfl
        | true =>
          dsimp only
          refine propext ⟨fun z => ?_, fun ⟨r, s, z⟩ => ?_⟩
          · by_cases hh : ∃ r, Suits i h x e' r
            · rw [dif_pos hh] at z
              exact ⟨_, hh.choose_spec, z⟩
            · rw [dif_neg hh] at z; exact z.elim
          · have hh : ∃ r, Suits i h x e' r := ⟨r, s⟩
            rw [dif_pos hh, hh.choose_spec.one s]
            exact z
theorem HandP_t {c : Str → Option Bool} {i : Nat} {h : Addr → Addr → Exn → M Fl} {x : Str} {fs : List (Str × D)} {e : Sl} {Q : PostE Fl} {X : PostE Exn} (hc : c x = some true) : @HandP c i h Q X ⟨x, fs⟩ e = @HandT i h Q X ⟨x, fs⟩ e := by
  unfold HandP HandT
  dsimp only
  rw [hc]
theorem HandP_f {c : Str → Option Bool} {i : Nat} {h : Addr → Addr → Exn → M Fl} {x : Str} {fs : List (Str × D)} {e : Sl} {Q : PostE Fl} {X : PostE Exn} (hc : c x = some false) : @HandP c i h Q X ⟨x, fs⟩ e = X.run ⟨x, fs⟩ e := by
  unfold HandP
  dsimp only
  rw [hc]
theorem HandT.of {i : Nat} {h : Addr → Addr → Exn → M Fl} {x : Exn} {e : Sl} {Q : PostE Fl} {X : PostE Exn} (fl : Fl) (E : Sl)
    (hs : ∀ a d, Ev (h a d x (e.set i (some (.exn a d x)))) (fun fl' e' => fl' = fl ∧ e'.set i none = E) (fun _ _ => False)) (q : Q.run fl E) : @HandT i h Q X x e := by
  refine ⟨.ok fl E, fun a d => ?_, q⟩
  obtain ⟨fl', e', h1, rfl, rfl⟩ := (hs a d).get
  rw [h1]; rfl
theorem eXf_p {cs : List Str} {a d : Addr} {x : Str} {u : D} {i : Nat} {e : Sl} (hx : x ∈ cs) (hg : getO e i = some (.exn a d ⟨x, xfs x u⟩)) : eXf cs a d ⟨x, xfs x u⟩ i (PySem.Str.ofString "place") e = some (.ok (.fr u) e) := by
  have he : e[i]? = some (some (.exn a d ⟨x, xfs x u⟩)) := by
    unfold getO at hg
    split at hg
    · rename_i o ho; cases hg; exact ho
    · cases hg
  unfold eXf
  rw [if_pos hx, he]
  show (if a = a ∧ d = d then _ else _) = _
  rw [if_pos ⟨rfl, rfl⟩]
  rfl
theorem eXf_w {cs : List Str} {a d : Addr} {x : Str} {u : D} {i : Nat} {e : Sl} (hx : x ∈ cs) (hg : getO e i = some (.exn a d ⟨x, xfs x u⟩)) : eXf cs a d ⟨x, xfs x u⟩ i (PySem.Str.ofString "word") e = some (.ok (.fr (.str x)) e) := by
  have he : e[i]? = some (some (.exn a d ⟨x, xfs x u⟩)) := by
    unfold getO at hg
    split at hg
    · rename_i o ho; cases hg; exact ho
    · cases hg
  unfold eXf
  rw [if_pos hx, he]
  show (if a = a ∧ d = d then _ else _) = _
  rw [if_pos ⟨rfl, rfl⟩]
  rfl
theorem eXi_a {l : List (Str × Bool)} {a d : Addr} {x : Str} {fs : List (Str × D)} {i : Nat} {e : Sl} {b : Bool} (hx : isaL l x = some b) (hg : getO e i = some (.exn a d ⟨x, fs⟩)) : eXi (isaL l) a d ⟨x, fs⟩ i e = some (.ok (bO b) e) := by
  have he : e[i]? = some (some (.exn a d ⟨x, fs⟩)) := by
    unfold getO at hg
    split at hg
    · rename_i o ho; cases hg; exact ho
    · cases hg
  unfold eXi
  rw [he]
  show (if a = a ∧ d = d then _ else _) = _
  rw [if_pos ⟨rfl, rfl⟩]
  dsimp only
  rw [hx]
  rfl
end Dn

namespace Dn
open PySem L2
open Evl (Ex)

/-! ## 44. list.count of a text -/
def rCntS (K : PySem.W.Frag) : V → List V → Hp → VK → Prop := fun x xs H Q => ∃ (p : Addr) (ys : List Str) (k : Str), x = .ref p ∧ xs = [.str k] ∧ SqL K H p (ys.map V.str) ∧ Q (.int (ys.count k : Nat)) H
theorem countIn_c (k : Str) : ∀ ys : List Str, PySem.Spec.countIn (.str k) (ys.map PyData.str) = ((ys.count k : Nat) : Int)
  | [] => rfl
  | y :: ys => by
    have ih := countIn_c k ys
    rw [List.map_cons, PySem.Spec.countIn, ih, List.count_cons]
    simp only [PySem.Spec.same]
    rcases Bool.eq_false_or_eq_true (y == k) with hb | hb <;> simp only [hb, Bool.false_eq_true, if_true, if_false] <;> push_cast <;> omega
theorem strsAre_of : ∀ {ys : List Str} {its : List Value}, Vals (ys.map V.str) its → PyProof.Rows.StrsAre its ys
  | [], _, .nil => .nil
  | y :: ys, _, .cons h hs => by
    obtain ⟨t, rfl⟩ := h
    exact .cons _ _ (strsAre_of hs)
section
variable {X : Cx}
theorem mt_lcountS : MtR X "list.count" (rCntS X.K) := by
  intro pins s σ H x xs v us Q I rx rxs h
  obtain ⟨p, ys, k, rfl, rfl, hs, q⟩ := h
  cases rx
  obtain ⟨u, rfl, ru⟩ := rxs.one
  obtain ⟨t, rfl⟩ := ru
  obtain ⟨its, rv, hl, hlen⟩ := I.list hs
  refine PyProof.Rows.count_list_strs (vs := its) hl.isList (strsAre_of rv) ?_
  rw [countIn_c]
  exact ⟨.int (ys.count k : Nat), H, I.tok _, ⟨s.toks, rfl⟩, q⟩
end
def gLCount : List D → Option O
  | [.lst ds, .str k] => (strsD ds).map fun ys => iO (ys.count k : Nat)
  | _ => none
theorem strsD_of : ∀ {ds : List D} {ys : List Str}, strsD ds = some ys → ds = ys.map D.str
  | [], _, h => by cases h; rfl
  | d :: ds, ys, h => by
    cases d with
    | str b =>
      obtain ⟨zs, h1, rfl⟩ := Option.map_eq_some_iff.mp (show (strsD ds).map (b :: ·) = some ys from h)
      rw [strsD_of h1]; rfl
    | _ => cases h
theorem n_lcount {K : PySem.W.Frag} : SndM K (rCntS K) gLCount := fun B H x vs a ds o hx ha hr hg Q q => by
  unfold gLCount at hg
  split at hg
  · rename_i _ ls k e
    injection e with e1 e2
    subst e1 e2
    obtain ⟨ys, h1, rfl⟩ := Option.map_eq_some_iff.mp hg
    have e3 := strsD_of h1
    subst e3
    obtain ⟨p, xs, rfl, h2, h3⟩ := ha
    obtain ⟨y, rfl, h4⟩ := hr.one
    cases h4
    have e4 := repL_of_strs h3
    subst e4
    exact ⟨p, ys, k, rfl, rfl, Evl.sq_of h2, q.fr hx (.int _)⟩
  · cases hg
section
variable {X : Cx} {W : WX} {o e : Expr} {p q : P} {G : List D → Option O} {id : String} {name : Str} {apos pos : Pos} {r : V → List V → Hp → VK → Prop}
theorem d_lm1 (slot : Slot "list" name id) (ty : typeOf (.builtin id) = pure (.type "method_descriptor")) (rule : MtR X id r) (hs : SndM X.K r G) (ho : PE X o (tP X.K X.mg W p)) (he : PE X e (tP X.K X.mg W q))
    (hbase : attributeBase o name X.env (eval o X.env) = eval o X.env := by rfl)
    (hfew : ((backTo pos (starEach [e] X.env)).all (fun x => !x.1) && (backToKw pos (keywordEach [] X.env)).all (fun x => x.1.isSome)
      && decide (([e] : List Expr).length + ([] : List Keyword).length + (if ([] : List Keyword).isEmpty then 0 else 1) < 30)) = true := by rfl)
    (hline : (apos.endLine == pos.line) = true := by rfl) (hst : starEach [e] X.env = (false, eval e X.env) :: starEach [] X.env := by rfl) (hpl : (backTo pos (starEach [] X.env)).any (·.1) = false := by rfl) :
    PE X (.Call (.Attribute o name apos) [e] [] pos) (tE X.K X.mg W (apM isLst G p [q])) := pe_imp (pe_bm PySem.F.plainAttrs_list slot ty rule ho (pa_c he pa_n hst) hbase hfew hline hst hpl) fun σ H Q h => apM_run (fun B H v d _ h c => chk_lst h c) hs h
end
theorem gLCount_s {ys : List Str} {k : Str} : gLCount [.lst (ys.map D.str), .str k] = some (iO (ys.count k : Nat)) := by
  have : strsD (ys.map D.str) = some ys := by
    induction ys with
    | nil => rfl
    | cons y ys ih => show (strsD (ys.map D.str)).map (y :: ·) = _; rw [ih]; rfl
  show (strsD _).map _ = _
  rw [this]; rfl
end Dn

namespace Dn
open PySem L2
open Evl (Ex)

/-! ## 45. Dicts of one's own -/
/-- {} -/
def eDct0 : M O := M.pure (.dct [] [])
def hasK (ks : List L2.Key) (k : L2.Key) : Bool := ks.any fun j => decide (j = k)
def putKs (ks : List L2.Key) (k : L2.Key) : List L2.Key := if hasK ks k then ks else ks ++ [k]
def replX : List L2.Key → List D → L2.Key → D → List D
  | j :: ks, d :: ds, k, x => (if j = k then x else d) :: replX ks ds k x
  | _, _, _, _ => []
def putXs (ks : List L2.Key) (xs : List D) (k : L2.Key) (x : D) : List D := if hasK ks k then replX ks xs k x else xs ++ [x]
/-- d[k] = v, d a dict of one's own -/
def sSetK (i : Nat) (fk fv : M O) : M Fl := fv.bind fun o e1 => match e1[i]? with
  | some (some (.dct _ _)) => (fk.bind fun k e => match e[i]? with
    | some (some (.dct ks xs)) => (match keyD k.d with
      | some kk => if ks.length < sizeLine then some (.ok .next (e.set i (some (.dct (putKs ks kk) (putXs ks xs kk o.d))))) else none
      | none => none)
    | _ => none) e1
  | _ => none
section
variable {K : PySem.W.Frag} {mg : Str → Option Value} {W : WX} {B B' H H' : Hp} {v : V} {o : O} {σ σ' : St} {e e' : Sl} {S S' : Nat → Addr → Prop} {T T' : Addr → Prop}
theorem hasK_any (k : L2.Key) (kv : List (L2.Key × V)) : (kv.any fun p => decide (p.1 = k)) = hasK (kv.map (·.1)) k := by
  unfold hasK
  rw [List.any_map]; rfl
theorem putK_ks (k : L2.Key) (v : V) (kv : List (L2.Key × V)) : (putK kv k v).map (·.1) = putKs (kv.map (·.1)) k := by
  unfold putK putKs
  rw [hasK_any]
  cases hasK (kv.map (·.1)) k with
  | true =>
    rw [if_pos rfl, if_pos rfl, List.map_map]
    refine List.map_congr_left fun p _ => ?_
    show (if p.1 = k then (p.1, v) else p).1 = p.1
    split <;> rfl
  | false => rw [if_neg Bool.noConfusion, if_neg Bool.noConfusion, List.map_append]; rfl
theorem repl_rep (k : L2.Key) {v : V} {d : D} (hv : Rep K B v d) : ∀ {kv : List (L2.Key × V)} {ks : List L2.Key} {ds : List D}, kv.map (·.1) = ks → RepL K B (kv.map (·.2)) ds → RepL K B ((kv.map fun p => if p.1 = k then (p.1, v) else p).map (·.2)) (replX ks ds k d)
  | [], _, ds, h, hr => by
    cases h
    cases ds <;> exact .nil
  | p :: kv, [], _, h, _ => by cases h
  | p :: kv, j :: ks, [], _, hr => by cases hr
  | p :: kv, j :: ks, d' :: ds, h, hr => by
    rw [List.map_cons] at h hr
    injection h with h1 h2
    cases hr with
    | cons hd hr =>
      rw [List.map_cons, List.map_cons]
      unfold replX
      refine .cons ?_ (repl_rep k hv h2 hr)
      have h1' : p.1 = j := h1
      by_cases ej : j = k
      · rw [if_pos ej, if_pos (h1'.trans ej)]; exact hv
      · rw [if_neg ej, if_neg (fun z => ej (h1'.symm.trans z))]; exact hd
theorem putK_xs (k : L2.Key) {v : V} {d : D} (hv : Rep K B v d) {kv : List (L2.Key × V)} {ks : List L2.Key} {ds : List D} (h : kv.map (·.1) = ks) (hr : RepL K B (kv.map (·.2)) ds) : RepL K B ((putK kv k v).map (·.2)) (putXs ks ds k d) := by
  unfold putK putXs
  rw [hasK_any, h]
  cases hasK ks k with
  | true => rw [if_pos rfl, if_pos rfl]; exact repl_rep k hv h hr
  | false =>
    rw [if_neg Bool.noConfusion, if_neg Bool.noConfusion, List.map_append]
    exact hr.append (.cons hv .nil)
theorem Rp.mutD (r : Rp K B H σ e S) {i : Nat} {l : Addr} {kv kv' : List (L2.Key × V)} {ks ks' : List L2.Key} {ds ds' : List D} (he : e[i]? = some (some (.dct ks ds))) (hσ : σ[i]? = some (some (.ref l))) (hl : H l = some (.dK kv)) (hk : kv'.map (·.1) = ks') (hr : RepL K B (kv'.map (·.2)) ds') :
    Rp K B (L2.upd H l (.dK kv')) σ (e.set i (some (.dct ks' ds'))) S ∧ Fr B H (tot S) B (L2.upd H l (.dK kv')) (tot S) := by
  obtain ⟨v, hv, p, ys, e1, h2, hk2, h3, h4⟩ := r.rep i _ he
  rw [hσ] at hv; cases hv
  cases e1
  have hS : S i l := (h4 l).mpr rfl
  have hb := (r.own i l hS).1
  have hlen : i < e.length := (List.getElem?_eq_some_iff.mp he).1
  refine ⟨⟨by rw [List.length_set]; exact r.len, fun a o ha => ?_, fun j o ho => ?_, r.dis, fun j a ha => ⟨(r.own j a ha).1, ?_⟩⟩, Fr.upd hl ⟨i, hS⟩⟩
  · rw [upd_ne (fun z => by subst z; rw [hb] at ha; cases ha)]; exact r.ex a o ha
  · by_cases hj : j = i
    · subst hj
      rw [List.getElem?_set_self hlen] at ho
      cases ho
      exact ⟨_, hσ, l, kv', rfl, upd_same, hk, hr, h4⟩
    · rw [List.getElem?_set_ne (Ne.symm hj)] at ho
      obtain ⟨v, a1, a2⟩ := r.rep j o ho
      refine ⟨v, a1, ?_⟩
      cases o with
      | fr d => exact a2
      | lst es =>
        obtain ⟨q, zs, b1, b2, b3, b4⟩ := a2
        refine ⟨q, zs, b1, ?_, b3, b4⟩
        rw [upd_ne (fun z => by subst z; exact hj (r.dis j i q ((b4 q).mpr rfl) hS))]
        exact b2
      | dct es fs =>
        obtain ⟨q, zs, b1, b2, bk, b3, b4⟩ := a2
        refine ⟨q, zs, b1, ?_, bk, b3, b4⟩
        rw [upd_ne (fun z => by subst z; exact hj (r.dis j i q ((b4 q).mpr rfl) hS))]
        exact b2
      | ins c ns es =>
        obtain ⟨q, C, dx, zs, b1, b2, bc, bk, b3, b4⟩ := a2
        refine ⟨q, C, dx, zs, b1, ?_, bc, bk, b3, b4⟩
        rw [upd_ne (fun z => by subst z; exact hj (r.dis j i q ((b4 q).mpr rfl) hS))]
        exact b2
      | exn a d x => exact a2
      | tr t => exact RepT.frame (Ex.refl B) a2 fun a o z q => by rw [upd_ne (show a ≠ l from fun y => hj (r.dis j i a z (by rw [y]; exact hS)))]; exact q
  · by_cases hp : a = l
    · exact ⟨_, by rw [hp]; exact upd_same⟩
    · obtain ⟨_, o, h⟩ := r.own j a ha
      exact ⟨o, by rw [upd_ne hp]; exact h⟩
end
section
variable {X : Cx} {W : WX} {e k g2 : Expr} {pos p p2 : Pos} {f g h3 : M O} {q : P} {ks : List Nat} {i : Nat} {x : Str}
theorem d_dct0 : PE X (.Dict [] [] pos) (tE X.K X.mg W eDct0) := pe_imp pe_dnewK fun σ H Q h => by
  obtain ⟨B, e, S, r, h⟩ := h
  intro p hp
  have g := Gr.own r.ex hp (.dK [])
  refine (show ∀ v B' H' S' T, Vl X.K B' H' σ e S' v (.dct [] []) T → Fr B H (tot S) B' H' (fun a => T a ∨ tot S' a) → Q v H' from h) (.ref p) B _ S (fun a => a = p) ⟨r.grow g, ⟨p, [], rfl, upd_same, rfl, .nil, fun a => Iff.rfl⟩, fun a e => ?_, fun a e ⟨j, hj⟩ => ?_⟩ ⟨g.b, fun a o q _ => g.h a o q, fun a z => z.elim (fun z => .inr (by rw [z]; exact hp)) .inl, fun a u q => (g.c a u q).elim .inl fun z => .inr (.inr z), fun a u q => ⟨u, g.h a u q⟩⟩
  · subst e
    refine ⟨?_, _, upd_same⟩
    cases q : B a with
    | none => rfl
    | some u => have := r.ex a u q; rw [hp] at this; cases this
  · subst e
    obtain ⟨_, u, hu⟩ := r.own j a hj
    rw [hp] at hu; cases hu
def rSetDk : V → V → V → Hp → (Hp → Prop) → Prop := fun o i v H Q => ∃ p kv k, o = .ref p ∧ i = kV k ∧ H p = some (.dK kv) ∧ kv.length < sizeLine ∧ Q (L2.upd H p (.dK (putK kv k v)))
theorem set_dk (hu : X.A.units + 1 < cLine) : PSet X rSetDk := by
  intro pins s σ H o i v ov iv u Q I ro ri rv h
  obtain ⟨p, kv, k, rfl, rfl, hp, hl, q⟩ := h
  cases ro
  exact d_setItem hu I (DPut.k hp hl) ri rv fun s' I' => ⟨_, I', q⟩
theorem s_setK (hu : X.A.units + 64 < cLine) (hv : PE X (.Name x p) (tVar i)) (hk : PE X k (tE X.K X.mg W f)) (he : PE X e (tE X.K X.mg W g))
    (ha : ∀ v, assign (.Subscript (.Name x p) k p2) X.env v = (do
      let ov ← holding [v] (eval (.Name x p) X.env)
      let iv ← holding [v, ov] (eval k X.env)
      standAt p2
      holding [v, ov, iv] (setItem ov iv v)
      release [v, ov, iv] []) := by intro _; rfl)
    (hs : swapsWithSole [.Subscript (.Name x p) k p2] e pos.line X.env = pure false := by rfl) (hw : swappedStores [.Subscript (.Name x p) k p2] e X.env = pure none := by rfl)
    (h1 : (assignEach [.Subscript (.Name x p) k p2] X.env).map (·.2) = [assign (.Subscript (.Name x p) k p2) X.env] := by rfl) :
    PS X (.Assign [.Subscript (.Name x p) k p2] e pos) (tS X.K X.mg W ks (sSetK i f g)) := ps_imp (ps_asg he (pg_sub hv hk (set_dk (by omega)) ha) hs hw h1) fun D σ H h => by
  obtain ⟨B, e, S, r, h⟩ := h
  refine ⟨B, e, S, r, h.bind.imp (fun o e1 h v1 B1 H1 S1 T vl f1 => ?_) fun _ _ z => ExS.toE z⟩
  obtain ⟨B2, vl2, f2⟩ := vl.freeze
  have f3 := fz_fr f1 f2
  cases q : e1[i]? with
  | none => rw [q] at h; exact h.elim
  | some u =>
    cases u with
    | none => rw [q] at h; exact h.elim
    | some o1 =>
      rw [q] at h
      cases o1 with
      | fr d => exact h.elim
      | lst _ => exact h.elim
      | ins _ _ _ => exact h.elim
      | exn _ _ _ => exact h.elim
      | tr _ => exact h.elim
      | dct ks0 ds0 =>
        obtain ⟨v, hv, l, ys, ev, _, _, _, _⟩ := vl2.rp.rep i _ q
        subst ev
        refine ⟨_, hv, B2, e1, S1, vl2.rp, (show Post (M.bind f _ e1) _ _ from h).bind.imp (fun ko e2 h v2 B3 H3 S3 T3 vl3 f4 => ?_) fun x e2 z => ExS.toE (ExS.step z (Kp.refl _ _) f3)⟩
        cases q1 : e2[i]? with
        | none => rw [q1] at h; exact h.elim
        | some u1 =>
          cases u1 with
          | none => rw [q1] at h; exact h.elim
          | some o1 =>
            rw [q1] at h
            cases o1 with
            | fr d => exact h.elim
            | lst _ => exact h.elim
            | ins _ _ _ => exact h.elim
            | exn _ _ _ => exact h.elim
            | tr _ => exact h.elim
            | dct ks1 ds1 =>
              dsimp only at h
              cases hk : keyD ko.d with
              | none => rw [hk] at h; exact h.elim
              | some kk =>
                rw [hk] at h
                dsimp only at h
                by_cases hl : ks1.length < sizeLine
                · rw [if_pos hl] at h
                  obtain ⟨B4, vl4, f5⟩ := vl3.freeze
                  have f6 := fz_fr f4 f5
                  obtain ⟨v', hv', p', kv', e1', k2, kk2, k3, k4⟩ := vl4.rp.rep i _ q1
                  rw [hv] at hv'; cases hv'
                  cases e1'
                  obtain ⟨r5, f7⟩ := vl4.rp.mutD q1 hv k2 (kv' := putK kv' kk v1) (ks' := putKs ks1 kk) (by rw [putK_ks, kk2]) (putK_xs kk (vl2.ro.1.mono f6.b) kk2 k3)
                  exact ⟨_, kv', kk, rfl, keyD_v hk (vl4.ro.1.rd vl4.rp.ex), k2, by rw [← kk2, List.length_map] at hl; exact hl, (show Nd X.K D ks B H S σ .next _ from h) σ B4 _ S3 r5 (Kp.refl _ _) ((f3.trans f6).trans f7)⟩
                · rw [if_neg hl] at h; exact h.elim
/-! d.get(k), d.get(k, x) -/
def isDct : D → Bool
  | .dct _ _ => true
  | _ => false
def gGet1 : List D → Option O
  | [.dct ks xs, x] => (keyD x).map fun k => .fr ((getK ks xs k).getD .non)
  | _ => none
def gGet2 : List D → Option O
  | [.dct ks xs, x, y] => (keyD x).map fun k => match getK ks xs k with
    | some d => .fr d
    | none => .fr y
  | _ => none
theorem chk_dct {K : PySem.W.Frag} {H : Hp} {B : Hp} {v : V} {d : D} (h : Rd K B H v d) (hc : isDct d = true) : ∃ a, v = .ref a ∧ IsD H a := by
  cases d with
  | dct ks xs => obtain ⟨a, kv, rfl, h1, _⟩ := h; exact ⟨a, rfl, .inl ⟨kv, .inl h1⟩⟩
  | _ => cases hc
theorem getK_none {K : PySem.W.Frag} {B : Hp} {k : L2.Key} {kv : List (L2.Key × V)} {ks : List L2.Key} {ds : List D} (h : kv.map (·.1) = ks) (hr : RepL K B (kv.map (·.2)) ds) (e : getK ks ds k = none) : valV kv k = none := by
  have := getK_val (k := k) h hr
  rw [e] at this
  cases q : valV kv k with
  | none => rfl
  | some v => rw [q] at this; cases this
theorem n_get1 {K : PySem.W.Frag} : SndM K (fun x vs H Q => ∃ a y o, x = .ref a ∧ vs = [y] ∧ DGet H a y o ∧ Q (o.getD .non) H) gGet1 := fun B H x vs a ds o hx ha hr hg Q q => by
  unfold gGet1 at hg
  split at hg
  · rename_i h; cases h
    obtain ⟨k, hk, rfl⟩ := Option.map_eq_some_iff.mp hg
    obtain ⟨y, rfl, hy⟩ := hr.one
    obtain ⟨p, kv, rfl, h1, h2, h3⟩ := ha
    refine ⟨p, y, _, rfl, rfl, by rw [keyD_v hk hy]; exact DGet.k h1, ?_⟩
    rename_i ks xs _
    cases e : getK ks xs k with
    | none =>
      rw [getK_none h2 h3 e]
      rw [e] at q
      exact q.fr hx .non
    | some d =>
      obtain ⟨v, e1, e2⟩ := getK_rep h2 h3 e
      rw [e1]
      rw [e] at q
      exact q.fr hx e2
  · cases hg
def gGet2' : List D → Option O
  | [a, b, .int i] => gGet2 [a, b, .int i]
  | [a, b, .non] => gGet2 [a, b, .non]
  | _ => none
theorem n_get2 {K : PySem.W.Frag} : SndM K (fun x vs H Q => ∃ a y z o, x = .ref a ∧ vs = [y, z] ∧ DGet H a y o ∧ Q (o.getD z) H) gGet2' := fun B H x vs a ds o hx ha hr hg Q q => by
  have key : ∀ (b c : D), ds = [b, c] → gGet2 [a, b, c] = some o → (∀ u, Rd K B H u c → Rep K B u c) → ∃ a y z o, x = .ref a ∧ vs = [y, z] ∧ DGet H a y o ∧ Q (o.getD z) H := by
    intro b c e hg2 hc
    subst e
    unfold gGet2 at hg2
    split at hg2
    · rename_i ks xs b' c' h; cases h
      obtain ⟨k, hk, rfl⟩ := Option.map_eq_some_iff.mp hg2
      obtain ⟨y, z, rfl, hy, hz⟩ := RdL.two hr
      obtain ⟨p, kv, rfl, h1, h2, h3⟩ := ha
      refine ⟨p, y, z, _, rfl, rfl, by rw [keyD_v hk hy]; exact DGet.k h1, ?_⟩
      cases e : getK ks xs k with
      | none =>
        rw [getK_none h2 h3 e]
        rw [e] at q
        exact q.fr hx (hc _ hz)
      | some d =>
        obtain ⟨v, e1, e2⟩ := getK_rep h2 h3 e
        rw [e1]
        rw [e] at q
        exact q.fr hx e2
    · cases hg2
  unfold gGet2' at hg
  split at hg
  · rename_i h; cases h
    exact key _ _ rfl hg fun u hu => hu
  · rename_i h; cases h
    exact key _ _ rfl hg fun u hu => hu
  · cases hg
theorem tPs1 {K : PySem.W.Frag} {mg : Str → Option Value} {W : WX} {q : P} {σ : St} {H : Hp} {Q : List V → Hp → Prop} : tPs K mg W [q] σ H Q = tP K mg W q σ H fun y H2 => Q [y] H2 := rfl
theorem d_get1 {o e : Expr} {p q : P} {apos cpos : Pos} (hu : X.A.units + 64 < cLine) (ho : PE X o (tP X.K X.mg W p)) (he : PE X e (tP X.K X.mg W q)) (m : M1 X o "get" apos e cpos) :
    PE X (.Call (.Attribute o "get" apos) [e] [] cpos) (tE X.K X.mg W (apM isDct gGet1 p [q])) := pe_imp (pe_dget1 (by omega) ho he m) fun σ H Q h => by
  have := apM_run (C := fun v H => ∃ a, v = .ref a ∧ IsD H a) (fun B H v d _ h c => chk_dct h c) n_get1 h
  refine tP_mono _ _ _ _ _ (fun x H1 t => ?_) this
  obtain ⟨⟨a, rfl, hd⟩, t⟩ := t
  refine ⟨a, rfl, hd, ?_⟩
  refine tP_mono q _ _ _ _ (fun y H2 t => ?_) t
  obtain ⟨a', y', o, e1, e2, g, qq⟩ := t
  cases e1; cases e2
  exact ⟨o, g, qq⟩
theorem d_get2 {o e f : Expr} {p q r : P} {apos cpos : Pos} (hu : X.A.units + 64 < cLine) (ho : PE X o (tP X.K X.mg W p)) (he : PE X e (tP X.K X.mg W q)) (hf : PE X f (tP X.K X.mg W r)) (m : M2 X o "get" apos e f cpos) :
    PE X (.Call (.Attribute o "get" apos) [e, f] [] cpos) (tE X.K X.mg W (apM isDct gGet2' p [q, r])) := pe_imp (pe_dget2 (by omega) ho he hf m) fun σ H Q h => by
  have := apM_run (C := fun v H => ∃ a, v = .ref a ∧ IsD H a) (fun B H v d _ h c => chk_dct h c) n_get2 h
  refine tP_mono _ _ _ _ _ (fun x H1 t => ?_) this
  obtain ⟨⟨a, rfl, hd⟩, t⟩ := t
  refine ⟨a, rfl, hd, ?_⟩
  refine tP_mono q _ _ _ _ (fun y H2 t => ?_) t
  refine tP_mono r _ _ _ _ (fun z H3 t => ?_) t
  obtain ⟨a', y', z', o, e1, e2, g, qq⟩ := t
  cases e1; cases e2
  exact ⟨o, g, qq⟩
/-! a dict of the module, texts to whole numbers -/
def tabGet : List (Str × Int) → Str → Option Int
  | [], _ => none
  | (y, i) :: l, z => if y = z then some i else tabGet l z
structure KTab (K : PySem.W.Frag) (w : World) (mg : Str → Option Value) (x : Str) (l : List (Str × Int)) : Prop where
  ex : ∃ (a : Addr) (es : Array DictEntry) (n : Nat), mg x = some (.ref a) ∧ K.lookup a = some ⟨.type "dict", none, .dict es n, #[]⟩ ∧ PySem.W.KeysLit w.params es.toList ∧ (a == sysModules) = false ∧
    ∀ z, ∃ r, PySem.W.nsIn K a z = some r ∧ (match tabGet l z with
      | some i => ∃ t, r = some (.int i t)
      | none => r = none)
def gTab (l : List (Str × Int)) : List D → Option O
  | [.str z, .int j] => some (iO ((tabGet l z).getD j))
  | _ => none
theorem d_tabGet {l : List (Str × Int)} {x : Str} {e f : Expr} {p q : P} {apos cpos np : Pos} (T : KTab X.K X.w X.mg x l) (he : PE X e (tP X.K X.mg W p)) (hf : PE X f (tP X.K X.mg W q)) (m : M2 X (.Name x np) "get" apos e f cpos) (hg : Gl X x) (hdb : (x == ("__debug__" : Str)) = false := by decide) :
    PE X (.Call (.Attribute (.Name x np) "get" apos) [e, f] [] cpos) (tE X.K X.mg W (ap (gTab l) [p, q])) := by
  obtain ⟨a, es, n, hm, hl, hk, lo, hz⟩ := T.ex
  have hn : PE X (.Name x np) (tC (.ref a)) := pe_glob hg hm rfl hdb
  refine ⟨fun pins s σ H Q I h => ?_⟩
  have h2 := apN_run (K := X.K) (mg := X.mg) (W := W) (r := fun vs H Q => ∃ z j, vs = [.str z, .int j] ∧ Q (.int ((tabGet l z).getD j)) H) (g := gTab l) (ps := [p, q]) (fun B H vs ds o hx hr hg Q q => by
    unfold gTab at hg
    split at hg
    · cases hg
      obtain ⟨y, z, rfl, hy, hz⟩ := RdL.two hr
      cases hy; cases hz
      exact ⟨_, _, rfl, q.fr hx (.int _)⟩
    · cases hg) Q h
  refine wpAny_Call_method m.base m.few m.line PySem.F.plainAttrs_dict PySem.F.slot_dict_get PySem.F.type_dict_get (thn (hn.run pins s σ H _ I (show tC (.ref a) σ H fun x H1 => x = .ref a ∧ tPs X.K X.mg W [p, q] σ H1 fun vs H2 => ∃ z j, vs = [.str z, .int j] ∧ Q (.int ((tabGet l z).getD j)) H2 from ⟨rfl, h2⟩)) fun u s1 ⟨x, H1, I1, rx, ex, q1⟩ => ?_)
  subst ex
  obtain rfl : u = Value.ref a := rx
  have hm1 := PySem.W.mapOf_K (prog := X.prog) (w := X.w) I1.kIn hl hk
  refine ⟨hm1.typeIs, fun b q => ?_, ?_⟩
  · cases q
    obtain ⟨ob, _, _, h1, h2, _⟩ := hm1
    exact ⟨ob, h1, h2.2.1⟩
  rw [m.trees]
  refine Calls.callWith_builtin rfl (Calls.evalArgs_plain (Calls.spliced_cons (thn (he.run pins s1 σ H1 _ I1 q1) fun iv s2 ⟨y, H2, I2, ry, q2⟩ =>
    Calls.spliced_cons (thn (hf.run pins s2 σ H2 _ I2 q2) fun fv s3 ⟨zz, H3, I3, rz, z, j, ev, q3⟩ => Calls.spliced_nil ?_))))
  cases ev
  obtain ⟨t1, rfl⟩ := ry
  obtain ⟨t2, rfl⟩ := rz
  have hm3 := PySem.W.mapOf_K (prog := X.prog) (w := X.w) I3.kIn hl hk
  obtain ⟨r, hr, hr2⟩ := hz z
  refine call_meetsIn PySem.F.slot_dict_get hm3.typeIs PySem.F.entry_dict_get (PySem.F.args_dict_get_3 _ _ _) (meets_dict_get_default (strKind X.prog X.w) a (strKind_is X.prog X.w z t1) lo (.int j t2)) ⟨_, hm3, ?_⟩
  rw [PySem.W.find_K hl hr]
  cases e : tabGet l z with
  | none =>
    rw [e] at hr2 q3
    subst hr2
    exact ⟨.int j, H3, I3.tok _, ⟨t2, rfl⟩, q3⟩
  | some i =>
    rw [e] at hr2 q3
    obtain ⟨t3, rfl⟩ := hr2
    exact ⟨.int i, H3, I3.tok _, ⟨t3, rfl⟩, q3⟩
end
/-- the entries of a dict that the module has written -/
inductive TabE (P : Params) : List DictEntry → List (Str × Int) → Prop
  | nil : TabE P [] []
  | cons {e : DictEntry} {es : List DictEntry} {x : Str} {i : Int} {l : List (Str × Int)} : (∃ t, e.key = .str x t) → (∃ t, e.val = .int i t) → e.hash = PyData.keyHash P x → TabE P es l → TabE P (e :: es) ((x, i) :: l)
theorem TabE.lit {P : Params} : ∀ {es : List DictEntry} {l : List (Str × Int)}, TabE P es l → PySem.W.KeysLit P es
  | _, _, .nil => trivial
  | _, _, .cons ⟨t, h1⟩ _ h3 h4 => ⟨⟨_, t, h1, h3⟩, h4.lit⟩
theorem TabE.any {P : Params} : ∀ {es : List DictEntry} {l : List (Str × Int)}, TabE P es l → es.any (·.refKey) = false
  | _, _, .nil => rfl
  | _, _, .cons (e := e) ⟨t, h1⟩ _ h3 h4 => by
    rw [List.any_cons, h4.any, Bool.or_false]
    unfold DictEntry.refKey
    rw [h1]
theorem TabE.find {P : Params} (z : Str) : ∀ {es : List DictEntry} {l : List (Str × Int)}, TabE P es l → match tabGet l z with
    | some i => ∃ e t, es.find? (·.key.isStr z) = some e ∧ e.val = .int i t
    | none => es.find? (·.key.isStr z) = none
  | _, _, .nil => rfl
  | _, _, .cons (e := e) (x := x) (i := i) (l := l) (es := es) ⟨t, h1⟩ ⟨u, h2⟩ h3 h4 => by
    have hs : e.key.isStr z = decide (x = z) := by
      rw [h1]
      show (x == z) = _
      by_cases h : x = z
      · rw [decide_eq_true h]; exact beq_iff_eq.mpr h
      · rw [decide_eq_false h]; exact beq_eq_false_iff_ne.mpr h
    have ih := TabE.find z h4
    unfold tabGet
    by_cases h : x = z
    · rw [if_pos h]
      refine ⟨e, u, ?_, h2⟩
      rw [List.find?_cons, hs, decide_eq_true h]
    · rw [if_neg h]
      have e2 : (e :: es).find? (·.key.isStr z) = es.find? (·.key.isStr z) := by rw [List.find?_cons, hs, decide_eq_false h]
      rw [e2]
      exact ih
theorem ktab_mk {K : PySem.W.Frag} {w : World} {mg : Str → Option Value} {x : Str} {l : List (Str × Int)} {a : Addr} {es : Array DictEntry} {n : Nat} (hm : mg x = some (.ref a)) (hl : K.lookup a = some ⟨.type "dict", none, .dict es n, #[]⟩) (lo : (a == sysModules) = false) (hT : TabE w.params es.toList l) : KTab K w mg x l :=
  ⟨a, es, n, hm, hl, hT.lit, lo, fun z => by
    have h := hT.find z
    unfold PySem.W.nsIn
    rw [hl]
    dsimp only
    cases e : tabGet l z with
    | none =>
      rw [e] at h
      dsimp only at h ⊢
      rw [h]
      dsimp only
      rw [hT.any]
      exact ⟨none, rfl, rfl⟩
    | some i =>
      rw [e] at h
      obtain ⟨en, t, h1, h2⟩ := h
      rw [h1]
      exact ⟨some en.val, rfl, t, by rw [h2]⟩⟩
/-! evaluated -/
theorem eDct0_a (e : Sl) : eDct0 e = some (.ok (.dct [] []) e) := nr rfl
theorem gTab_q {l : List (Str × Int)} {z : Str} {j : Int} : gTab l [.str z, .int j] = some (iO ((tabGet l z).getD j)) := nr rfl
theorem gIx_ds {ks : List L2.Key} {xs : List D} {z : Str} : gIx [.dct ks xs, .str z] = (getK ks xs (.inr z)).map .fr := nr rfl
theorem gIx_di {ks : List L2.Key} {xs : List D} {i : Int} : gIx [.dct ks xs, .int i] = (getK ks xs (.inl i)).map .fr := nr rfl
theorem gIn_ds {ks : List L2.Key} {xs : List D} {z : Str} : gIn [.str z, .dct ks xs] = some (bO (getK ks xs (.inr z)).isSome) := nr rfl
theorem gNotIn_ds {ks : List L2.Key} {xs : List D} {z : Str} : gNotIn [.str z, .dct ks xs] = some (bO (!(getK ks xs (.inr z)).isSome)) := nr rfl
theorem gIn_di {ks : List L2.Key} {xs : List D} {i : Int} : gIn [.int i, .dct ks xs] = some (bO (getK ks xs (.inl i)).isSome) := nr rfl
theorem gNotIn_di {ks : List L2.Key} {xs : List D} {i : Int} : gNotIn [.int i, .dct ks xs] = some (bO (!(getK ks xs (.inl i)).isSome)) := nr rfl
theorem gGet1_s {ks : List L2.Key} {xs : List D} {z : Str} : gGet1 [.dct ks xs, .str z] = some (.fr ((getK ks xs (.inr z)).getD .non)) := nr rfl
theorem gGet1_i {ks : List L2.Key} {xs : List D} {i : Int} : gGet1 [.dct ks xs, .int i] = some (.fr ((getK ks xs (.inl i)).getD .non)) := nr rfl
theorem sSetK_a (i : Nat) (fk fv : M O) (e : Sl) : sSetK i fk fv e = @thn' _ _ (fv e) ⟨fun o e1 => (match getO e1 i with
    | some (.dct _ _) => @thn' _ _ (fk e1) ⟨fun k e2 => (match getO e2 i with
      | some (.dct ks xs) => (match keyD k.d with
        | some kk => if ks.length < sizeLine then some (.ok .next (e2.set i (some (.dct (putKs ks kk) (putXs ks xs kk o.d))))) else none
        | none => none)
      | _ => none)⟩
    | _ => none)⟩ := by
  unfold sSetK
  show @thn' _ _ (fv e) ⟨_⟩ = _
  refine thn_congr fun o e1 => ?_
  unfold getO
  cases e1[i]? with
  | none => rfl
  | some u => cases u with
    | none => rfl
    | some o => cases o with
      | dct _ _ =>
        show @thn' _ _ (fk e1) ⟨_⟩ = _
        refine thn_congr fun k e2 => ?_
        cases e2[i]? with
        | none => rfl
        | some u => cases u with
          | none => rfl
          | some o => cases o <;> rfl
      | _ => rfl
/-- a display {k: v, ..} of written keys -/
def dispL (ks : List L2.Key) (xs : List D) : List (L2.Key × D) → O
  | [] => .dct ks xs
  | (k, x) :: r => dispL (putKs ks k) (putXs ks xs k x) r
def eDisp (ns : List L2.Key) (fs : List (M O)) : M O := (items fs).bind fun ds => M.pure (dispL [] [] (ns.zip ds))
section
variable {K : PySem.W.Frag} {mg : Str → Option Value} {W : WX} {σ : St}
theorem pairs_run : ∀ (ns : List L2.Key) (fs : List (M O)) {B H : Hp} {e : Sl} {S : Nat → Addr → Prop} (Q : List (V × V) → Hp → Prop), ns.length = fs.length → Rp K B H σ e S →
    Post (items fs e) (fun ds e' => ∀ vs B' H' S', Rp K B' H' σ e' S' → RepL K B' vs ds → Fr B H (tot S) B' H' (tot S') → Q ((ns.zip vs).map fun p => (kV p.1, p.2)) H') (fun x e' => ExE K mg W B H S σ x e') →
    tPairs ((ns.zip fs).map fun p => (tC (kV p.1), tE K mg W p.2)) σ H Q
  | [], [], B, H, e, S, Q, _, r, h => h [] B H S r .nil (Fr.refl _ _ _)
  | [], _ :: _, _, _, _, _, _, hl, _, _ => by cases hl
  | _ :: _, [], _, _, _, _, _, hl, _, _ => by cases hl
  | n :: ns, f :: fs, B, H, e, S, Q, hl, r, h => by
    unfold items at h
    show tE K mg W f σ H _
    refine ⟨B, e, S, r, h.bind.imp (fun o e1 h v B1 H1 S1 T vl f1 => ?_) fun _ _ z => z⟩
    obtain ⟨B2, vl2, f2⟩ := vl.freeze
    have f3 : Fr B H (tot S) B2 H1 (tot S1) := f1.trans ⟨f2.b, fun a o q _ => q, fun a z => .inl (.inr z), fun a u q => (f2.c a u q).elim .inl fun z => .inr (z.elim (fun z => .inl (.inl z)) .inr), fun a o q => ⟨o, q⟩⟩
    refine pairs_run ns fs _ (by rw [List.length_cons, List.length_cons] at hl; omega) vl2.rp (h.bind.imp (fun ds e' h vs B' H' S' r' rl f4 => ?_) fun x e' z => z.step f3)
    have h' : ∀ vs B' H' S', Rp K B' H' σ e' S' → RepL K B' vs (o.d :: ds) → Fr B H (tot S) B' H' (tot S') → Q (((n :: ns).zip vs).map fun p => (kV p.1, p.2)) H' := h
    exact h' _ B' H' S' r' (.cons (vl2.ro.1.mono f4.b) rl) (f3.trans f4)
theorem merge_rep {B : Hp} : ∀ (ns : List L2.Key) (vs : List V) (ds : List D) (kv : List (L2.Key × V)) (ks : List L2.Key) (xs : List D), RepL K B vs ds → kv.map (·.1) = ks → RepL K B (kv.map (·.2)) xs →
    ∃ ks' xs', dispL ks xs (ns.zip ds) = .dct ks' xs' ∧ (mergeK kv (ns.zip vs)).map (·.1) = ks' ∧ RepL K B ((mergeK kv (ns.zip vs)).map (·.2)) xs'
  | [], vs, ds, kv, ks, xs, _, h1, h2 => ⟨ks, xs, rfl, h1, h2⟩
  | n :: ns, [], [], kv, ks, xs, _, h1, h2 => ⟨ks, xs, rfl, h1, h2⟩
  | n :: ns, [], _ :: _, _, _, _, h, _, _ => by cases h
  | n :: ns, _ :: _, [], _, _, _, h, _, _ => by cases h
  | n :: ns, v :: vs, d :: ds, kv, ks, xs, h, h1, h2 => by
    cases h with
    | cons hv hvs =>
      have := merge_rep ns vs ds (putK kv n v) (putKs ks n) (putXs ks xs n d) hvs (by rw [putK_ks, h1]) (putK_xs n hv h1 h2)
      exact this
end
section
variable {X : Cx} {W : WX} {pos : Pos}
theorem d_disp {keys : List (Option Expr)} {values : List Expr} {ns : List L2.Key} {fs : List (M O)} (h : PPs X pos keys values ((ns.zip fs).map fun p => (tC (kV p.1), tE X.K X.mg W p.2))) (hl : ns.length = fs.length) (h15 : ns.length ≤ 15) (hall : keys.all (·.isSome) = true := by rfl) (hlk : keys.length = values.length := by rfl) (h0 : keys ≠ [] := by (intro z; cases z)) (hk15 : keys.length ≤ 15 := by decide) :
    PE X (.Dict keys values pos) (tE X.K X.mg W (eDisp ns fs)) := pe_imp (pe_disp h hall hlk h0 hk15) fun σ H Q h => by
  obtain ⟨B, e, S, r, h⟩ := h
  intro p hp
  have g := Gr.own r.ex hp (.dK [])
  have hnS : ∀ a, tot S a → a ≠ p := fun a ⟨j, hj⟩ z => by
    subst z
    obtain ⟨_, u, hu⟩ := r.own j a hj
    rw [hp] at hu; cases hu
  have hBp : B p = none := by
    cases q : B p with
    | none => rfl
    | some u => have := r.ex p u q; rw [hp] at this; cases this
  refine pairs_run ns fs _ hl (r.grow g) ((post_len h.bind).imp (fun ds e' h vs B' H' S' r' rl f => ?_) fun x e' z => ?_)
  · obtain ⟨h, hlen⟩ := h
    have hp2 : H' p = some (.dK []) := f.k p _ upd_same fun z => hnS p z rfl
    have hpS : ∀ j, ¬ S' j p := fun j hj => by
      rcases f.n p ⟨j, hj⟩ with z | z
      · exact hnS p z rfl
      · rw [upd_same] at z; cases z
    have hBp' : B' p = none := by
      cases q : B' p with
      | none => rfl
      | some u =>
        rcases f.c p u q with z | z | z
        · rw [hBp] at z; cases z
        · exact absurd rfl (hnS p z)
        · rw [upd_same] at z; cases z
    refine ⟨hp2, ns.zip vs, rfl, by rw [List.length_zip]; omega, ?_⟩
    obtain ⟨ks', xs', e1, e2, e3⟩ := merge_rep ns vs ds [] [] [] rl rfl .nil
    have h' : ∀ v B' H' S' T, Vl X.K B' H' σ e' S' v (dispL [] [] (ns.zip ds)) T → Fr B H (tot S) B' H' (fun a => T a ∨ tot S' a) → Q v H' := h
    rw [e1] at h'
    have r2 : Rp X.K B' (L2.upd H' p (.dK (mergeK [] (ns.zip vs)))) σ e' S' := by
      refine ⟨r'.len, fun a o ha => ?_, fun i o ho => ?_, r'.dis, fun i a ha => ⟨(r'.own i a ha).1, ?_⟩⟩
      · rw [upd_ne (fun z => by subst z; rw [hBp'] at ha; cases ha)]; exact r'.ex a o ha
      · obtain ⟨v, a1, a2⟩ := r'.rep i o ho
        refine ⟨v, a1, ?_⟩
        cases o with
        | fr d => exact a2
        | lst es =>
          obtain ⟨q, zs, b1, b2, b3, b4⟩ := a2
          exact ⟨q, zs, b1, by rw [upd_ne (fun z => by subst z; exact hpS i ((b4 q).mpr rfl))]; exact b2, b3, b4⟩
        | dct es fs =>
          obtain ⟨q, zs, b1, b2, bk, b3, b4⟩ := a2
          exact ⟨q, zs, b1, by rw [upd_ne (fun z => by subst z; exact hpS i ((b4 q).mpr rfl))]; exact b2, bk, b3, b4⟩
        | ins c ns es =>
          obtain ⟨q, C, dx, zs, b1, b2, bc, bk, b3, b4⟩ := a2
          exact ⟨q, C, dx, zs, b1, by rw [upd_ne (fun z => by subst z; exact hpS i ((b4 q).mpr rfl))]; exact b2, bc, bk, b3, b4⟩
        | exn a d x => exact a2
        | tr t => exact RepT.frame (Ex.refl _) a2 fun a o z q => by rw [upd_ne (show a ≠ p from fun y => hpS i (by rw [← y]; exact z))]; exact q
      · obtain ⟨_, u, hu⟩ := r'.own i a ha
        exact ⟨u, by rw [upd_ne (fun z => by subst z; exact hpS i ha)]; exact hu⟩
    refine h' (.ref p) B' _ S' (fun a => a = p) ⟨r2, ⟨p, _, rfl, upd_same, e2, e3, fun a => Iff.rfl⟩, fun a ha => by subst ha; exact ⟨hBp', _, upd_same⟩, fun a ha ⟨j, hj⟩ => by subst ha; exact hpS j hj⟩ ?_
    refine ⟨f.b, fun a o ho hs => ?_, fun a ha => ?_, fun a u hu => ?_, fun a o ho => ?_⟩
    · have hne : a ≠ p := fun z => by subst z; rw [hp] at ho; cases ho
      rw [upd_ne hne]
      exact f.k a o (by rw [upd_ne hne]; exact ho) hs
    · rcases ha with ha | ha
      · exact .inr (by rw [ha]; exact hp)
      · rcases f.n a ha with z | z
        · exact .inl z
        · by_cases hne : a = p
          · subst hne; rw [upd_same] at z; cases z
          · rw [upd_ne hne] at z; exact .inr z
    · rcases f.c a u hu with z | z | z
      · exact .inl z
      · exact .inr (.inl z)
      · by_cases hne : a = p
        · subst hne; rw [upd_same] at z; cases z
        · rw [upd_ne hne] at z; exact .inr (.inr z)
    · have hne : a ≠ p := fun z => by subst z; rw [hp] at ho; cases ho
      obtain ⟨o', ho'⟩ := f.a a o (by rw [upd_ne hne]; exact ho)
      exact ⟨o', by rw [upd_ne hne]; exact ho'⟩
  · exact z.step (g.fr _)
/-- dict(d): a copy -/
def gDictC : List D → Option O
  | [.dct ks xs] => some (.dct ks xs)
  | _ => none
theorem call_dictC : CallR X (.type "dict") (fun vs H Q => ∃ a kv, vs = [.ref a] ∧ H a = some (.dK kv) ∧ ∀ p, H p = none → Q (.ref p) (L2.upd H p (.dK kv))) := by
  intro pins s σ H xs us Q I r h
  obtain ⟨a, kv, rfl, ha, q⟩ := h
  cases r with
  | cons r1 r2 =>
    cases r2
    cases r1
    exact d_copyOf I (.inl ha) fun p s' hp I' => ⟨.ref p, _, I', rfl, q p hp⟩
theorem n_dictC {K : PySem.W.Frag} : SndN K (fun vs H Q => ∃ a kv, vs = [.ref a] ∧ H a = some (.dK kv) ∧ ∀ p, H p = none → Q (.ref p) (L2.upd H p (.dK kv))) gDictC := fun B H vs ds o hx hr hg Q q => by
  unfold gDictC at hg
  split at hg
  · cases hg
    obtain ⟨v, rfl, h⟩ := hr.one
    obtain ⟨a, kv, rfl, h1, h2, h3⟩ := h
    refine ⟨a, kv, rfl, h1, fun p hp => ?_⟩
    have g := Gr.own hx hp (.dK kv)
    refine q (.ref p) B _ (fun a => a = p) g ⟨p, kv, rfl, upd_same, h2, h3, fun a => Iff.rfl⟩ (fun a e => by rw [e]; exact hp) fun a e => ?_
    subst e
    refine ⟨?_, _, upd_same⟩
    cases q : B a with
    | none => rfl
    | some u => have := hx a u q; rw [hp] at this; cases this
  · cases hg
end
theorem eDisp_a (ns : List L2.Key) (fs : List (M O)) (e : Sl) : eDisp ns fs e = @thn' _ _ (items fs e) ⟨fun ds e' => some (.ok (dispL [] [] (ns.zip ds)) e')⟩ := nr rfl
theorem gDictC_d {ks : List L2.Key} {xs : List D} : gDictC [.dct ks xs] = some (.dct ks xs) := nr rfl
theorem dispL_n {ks : List L2.Key} {xs : List D} : dispL ks xs [] = .dct ks xs := nr rfl
theorem dispL_c {ks : List L2.Key} {xs : List D} {k : L2.Key} {x : D} {r : List (L2.Key × D)} : dispL ks xs ((k, x) :: r) = dispL (putKs ks k) (putXs ks xs k x) r := nr rfl
theorem isDct_d {ks : List L2.Key} {xs : List D} : isDct (.dct ks xs) = true := nr rfl
end Dn
namespace Dn
theorem bt_dict : PySem.bootBuiltins "dict" = some (.type "dict") := by decide +kernel
end Dn

namespace Dn
open PySem L2
open Evl (Ex)

/-! ## 46. Instances of the program's classes -/
def getF : List Str → List D → Str → Option D
  | n :: ns, d :: ds, f => if n = f then some d else getF ns ds f
  | _, _, _ => none
def putFn : List Str → Str → List Str
  | [], f => [f]
  | n :: ns, f => if n = f then n :: ns else n :: putFn ns f
def putFx : List Str → List D → Str → D → List D
  | n :: ns, d :: ds, f, x => if n = f then x :: ds else d :: putFx ns ds f x
  | _, _, _, x => [x]
/-- e.f -/
def gFld (c f : Str) : List D → Option O
  | [.ins c' ns xs] => if c' = c then (getF ns xs f).map .fr else none
  | _ => none
/-- x.f = e, x an instance of one's own -/
def sSetF (c f : Str) (i : Nat) (g : M O) : M Fl := g.bind fun o e => match e[i]? with
  | some (some (.ins c' ns xs)) => if c' = c ∧ ns.length < 1000 then some (.ok .next (e.set i (some (.ins c' (putFn ns f) (putFx ns xs f o.d))))) else none
  | _ => none
structure FldC (K : PySem.W.Frag) (c : Str) (fs : List Str) : Prop where
  ok : ∀ C, ClsN K c C → Cls K C ∧ ∀ f ∈ fs, NoAttr K C f
theorem ClsN.one {K : PySem.W.Frag} {c : Str} {C C' : Addr} (h : ClsN K c C) (h' : ClsN K c C') : C = C' := by
  unfold ClsN at h h'
  rw [h] at h'
  injection h' with h'
  injection h' with h'
  injection h' with h'
section
variable {K : PySem.W.Frag} {mg : Str → Option Value} {W : WX} {B B' H H' : Hp} {v : V} {o : O} {σ σ' : St} {e e' : Sl} {S S' : Nat → Addr → Prop} {T T' : Addr → Prop}
theorem getF_rep {f : Str} {d : D} : ∀ {fs : List (Str × V)} {ns : List Str} {ds : List D}, fs.map (·.1) = ns → RepL K B (fs.map (·.2)) ds → getF ns ds f = some d → ∃ v, fs.lookup f = some v ∧ Rep K B v d
  | [], [], ds, _, _, e => by cases ds <;> cases e
  | p :: fs, [], _, h, _, _ => by cases h
  | [], _ :: _, _, h, _, _ => by cases h
  | (g, x) :: fs, n :: ns, d' :: ds, h, hr, e => by
    rw [List.map_cons] at h hr
    injection h with h1 h2
    cases hr with
    | cons hd hr =>
      unfold getF at e
      have h1' : g = n := h1
      by_cases ej : n = f
      · rw [if_pos ej] at e
        cases e
        refine ⟨x, ?_, hd⟩
        rw [List.lookup_cons, show (f == g) = true from beq_iff_eq.mpr (h1'.trans ej).symm]
      · rw [if_neg ej] at e
        obtain ⟨v, e1, e2⟩ := getF_rep h2 hr e
        refine ⟨v, ?_, e2⟩
        rw [List.lookup_cons, show (f == g) = false from beq_eq_false_iff_ne.mpr fun z => ej (h1'.symm.trans z.symm)]
        exact e1
  | p :: fs, n :: ns, [], _, hr, _ => by cases hr
theorem putF_ns (f : Str) (v : V) : ∀ fs : List (Str × V), (putF f v fs).map (·.1) = putFn (fs.map (·.1)) f
  | [] => rfl
  | (g, x) :: fs => by
    show (if g = f then (g, v) :: fs else (g, x) :: putF f v fs).map (·.1) = if g = f then g :: fs.map (·.1) else g :: putFn (fs.map (·.1)) f
    by_cases h : g = f
    · rw [if_pos h, if_pos h]; rfl
    · rw [if_neg h, if_neg h, List.map_cons, putF_ns f v fs]
theorem putF_xs (f : Str) {v : V} {d : D} (hv : Rep K B v d) : ∀ {fs : List (Str × V)} {ns : List Str} {ds : List D}, fs.map (·.1) = ns → RepL K B (fs.map (·.2)) ds → RepL K B ((putF f v fs).map (·.2)) (putFx ns ds f d)
  | [], [], [], _, _ => .cons hv .nil
  | [], [], _ :: _, _, h => by cases h
  | p :: fs, [], _, h, _ => by cases h
  | [], _ :: _, _, h, _ => by cases h
  | p :: fs, n :: ns, [], _, hr => by cases hr
  | (g, x) :: fs, n :: ns, d' :: ds, h, hr => by
    rw [List.map_cons] at h hr
    injection h with h1 h2
    cases hr with
    | cons hd hr =>
      have h1' : g = n := h1
      show RepL K B ((if g = f then (g, v) :: fs else (g, x) :: putF f v fs).map (·.2)) (if n = f then d :: ds else d' :: putFx ns ds f d)
      by_cases ej : n = f
      · rw [if_pos ej, if_pos (h1'.trans ej)]; exact .cons hv hr
      · rw [if_neg ej, if_neg (fun z => ej (h1'.symm.trans z))]; exact .cons hd (putF_xs f hv h2 hr)
theorem Rp.mutI (r : Rp K B H σ e S) {i : Nat} {l C dx : Addr} {c : Str} {fs fs' : List (Str × V)} {ns ns' : List Str} {ds ds' : List D} (he : e[i]? = some (some (.ins c ns ds))) (hσ : σ[i]? = some (some (.ref l))) (hl : H l = some (.ins C dx fs)) (hc : ClsN K c C) (hk : fs'.map (·.1) = ns') (hr : RepL K B (fs'.map (·.2)) ds') :
    Rp K B (L2.upd H l (.ins C dx fs')) σ (e.set i (some (.ins c ns' ds'))) S ∧ Fr B H (tot S) B (L2.upd H l (.ins C dx fs')) (tot S) := by
  obtain ⟨v, hv, p, C', dx', ys, e1, h2, hc2, hk2, h3, h4⟩ := r.rep i _ he
  rw [hσ] at hv; cases hv
  cases e1
  have hS : S i l := (h4 l).mpr rfl
  have hb := (r.own i l hS).1
  have hlen : i < e.length := (List.getElem?_eq_some_iff.mp he).1
  refine ⟨⟨by rw [List.length_set]; exact r.len, fun a o ha => ?_, fun j o ho => ?_, r.dis, fun j a ha => ⟨(r.own j a ha).1, ?_⟩⟩, Fr.upd hl ⟨i, hS⟩⟩
  · rw [upd_ne (fun z => by subst z; rw [hb] at ha; cases ha)]; exact r.ex a o ha
  · by_cases hj : j = i
    · subst hj
      rw [List.getElem?_set_self hlen] at ho
      cases ho
      exact ⟨_, hσ, l, C, dx, fs', rfl, upd_same, hc, hk, hr, h4⟩
    · rw [List.getElem?_set_ne (Ne.symm hj)] at ho
      obtain ⟨v, a1, a2⟩ := r.rep j o ho
      refine ⟨v, a1, ?_⟩
      cases o with
      | fr d => exact a2
      | lst es =>
        obtain ⟨q, zs, b1, b2, b3, b4⟩ := a2
        refine ⟨q, zs, b1, ?_, b3, b4⟩
        rw [upd_ne (fun z => by subst z; exact hj (r.dis j i q ((b4 q).mpr rfl) hS))]
        exact b2
      | dct es fs =>
        obtain ⟨q, zs, b1, b2, bk, b3, b4⟩ := a2
        refine ⟨q, zs, b1, ?_, bk, b3, b4⟩
        rw [upd_ne (fun z => by subst z; exact hj (r.dis j i q ((b4 q).mpr rfl) hS))]
        exact b2
      | ins c ns es =>
        obtain ⟨q, C, dx, zs, b1, b2, bc, bk, b3, b4⟩ := a2
        refine ⟨q, C, dx, zs, b1, ?_, bc, bk, b3, b4⟩
        rw [upd_ne (fun z => by subst z; exact hj (r.dis j i q ((b4 q).mpr rfl) hS))]
        exact b2
      | exn a d x => exact a2
      | tr t => exact RepT.frame (Ex.refl B) a2 fun a o z q => by rw [upd_ne (show a ≠ l from fun y => hj (r.dis j i a z (by rw [y]; exact hS)))]; exact q
  · by_cases hp : a = l
    · exact ⟨_, by rw [hp]; exact upd_same⟩
    · obtain ⟨_, o, h⟩ := r.own j a ha
      exact ⟨o, by rw [upd_ne hp]; exact h⟩
end
section
variable {X : Cx} {W : WX} {e : Expr} {pos pos' p : Pos} {f g : M O} {q : P} {ks : List Nat} {i : Nat} {x c fn : Str} {fs : List Str}
theorem d_fld (F : FldC X.K c fs) (hf : fn ∈ fs) (he : PE X e (tP X.K X.mg W q)) (hb : attributeBase e fn X.env (eval e X.env) = eval e X.env := by rfl) : PE X (.Attribute e fn pos) (tE X.K X.mg W (ap (gFld c fn) [q])) :=
  pe_imp (pe_fld he hb) fun σ H Q h => ap1_run (r := fun x H Q => ∃ a C dx fs v, x = .ref a ∧ H a = some (.ins C dx fs) ∧ Cls X.K C ∧ NoAttr X.K C fn ∧ fs.lookup fn = some v ∧ Q v H) (fun B H x a o hx hr hg Q q => by
    unfold gFld at hg
    split at hg
    · rename_i h; cases h
      split at hg
      · rename_i ec
        subst ec
        obtain ⟨d, e, rfl⟩ := Option.map_eq_some_iff.mp hg
        obtain ⟨p, C, dx, fs', rfl, h1, h2, h3, h4⟩ := hr
        obtain ⟨v, e1, e2⟩ := getF_rep h3 h4 e
        obtain ⟨k1, k2⟩ := F.ok C h2
        exact ⟨p, C, dx, fs', v, rfl, h1, k1, k2 _ hf, e1, q.fr hx e2⟩
      · cases hg
    · cases hg) Q h
theorem s_setF (F : FldC X.K c fs) (hf : fn ∈ fs) (hv : PE X (.Name x p) (tVar i)) (he : PE X e (tE X.K X.mg W g)) (hs : swapsWith e (some (.Attribute (.Name x p) fn pos')) pos.line X.env = pure false := by rfl) :
    PS X (.Assign [.Attribute (.Name x p) fn pos'] e pos) (tS X.K X.mg W ks (sSetF c fn i g)) := ps_imp (ps_fld hv he hs) fun D σ H h => by
  obtain ⟨B, e, S, r, h⟩ := h
  refine ⟨B, e, S, r, h.bind.imp (fun o e1 h9 v1 B1 H1 S1 T vl f1 => ?_) fun _ _ z => ExS.toE z⟩
  clear h
  obtain ⟨B2, vl2, f2⟩ := vl.freeze
  have f3 := fz_fr f1 f2
  cases q : e1[i]? with
  | none => rw [q] at h9; exact h9.elim
  | some u =>
    cases u with
    | none => rw [q] at h9; exact h9.elim
    | some o1 =>
      rw [q] at h9
      cases o1 with
      | fr d => exact h9.elim
      | lst _ => exact h9.elim
      | dct _ _ => exact h9.elim
      | exn _ _ _ => exact h9.elim
      | tr _ => exact h9.elim
      | ins c' ns xs =>
        dsimp only at h9
        by_cases hc : c' = c ∧ ns.length < 1000
        · rw [if_pos hc] at h9
          obtain ⟨rfl, hl⟩ := hc
          obtain ⟨v, hv, l, C, dx, fs', ev, k2, kc, kk, k3, k4⟩ := vl2.rp.rep i _ q
          subst ev
          obtain ⟨c1, c2⟩ := F.ok C kc
          obtain ⟨r5, f5⟩ := vl2.rp.mutI q hv k2 kc (fs' := putF fn v1 fs') (ns' := putFn ns fn) (by rw [putF_ns, kk]) (putF_xs fn vl2.ro.1 kk k3)
          exact ⟨_, hv, l, C, dx, fs', rfl, k2, c1, c2 _ hf, by rw [← kk, List.length_map] at hl; exact hl, (show Nd X.K D ks B H S σ .next _ from h9) σ B2 _ S1 r5 (Kp.refl _ _) (f3.trans f5)⟩
        · rw [if_neg hc] at h9; exact h9.elim
/-! ### C(e, ..): an instance that stays as its __init__ left it -/
def mkIns (c : Str) (F : Fn) : Fn := fun os => match F (.ins c [] [] :: os) with
  | some (.ok (.fr .non) (.ins c' ns xs :: os')) => some (.ok (.fr (.ins c' ns xs)) os')
  | some (.ex x (_ :: os')) => some (.ex x os')
  | _ => none
theorem spD_make {K : PySem.W.Frag} {mg : Str → Option Value} {n : Nat} {c : Str} {F : Fn} {C : Addr} {vs : List V} {H : Hp} {Q : VK} {E : XK} (hC : ClsN K c C) (h : spD K mg n (mkIns c F) vs H Q E) :
    ∀ x dx, H x = none → H dx = none → dx ≠ x → spD K mg (n + 1) F (.ref x :: vs) (L2.upd (L2.upd H dx (.own x)) x (.ins C dx [])) (fun v H2 => v = .non ∧ Q (.ref x) H2) E := by
  intro x dx hx hdx hne
  obtain ⟨hl, B, os, S, r, h⟩ := h
  have g1 := Gr.own r.ex hdx (.own x)
  have hx1 : (L2.upd H dx (.own x)) x = none := by rw [upd_ne (Ne.symm hne)]; exact hx
  have g2 := Gr.own (r.grow g1).ex hx1 (.ins C dx [])
  have r2 := (r.grow g1).grow g2
  have gg := g1.trans g2
  have hnS : ∀ i a, S i a → a ≠ x := fun i a hi z => by
    subst z
    obtain ⟨_, u, hu⟩ := r.own i a hi
    rw [hx] at hu; cases hu
  have hBx : B x = none := by
    cases q : B x with
    | none => rfl
    | some u => have := r.ex x u q; rw [hx] at this; cases this
  have r3 : Rp K B (L2.upd (L2.upd H dx (.own x)) x (.ins C dx [])) ((V.ref x :: vs).map some) ((O.ins c [] [] :: os).map some) (fun i a => match i with
      | 0 => a = x
      | i + 1 => S i a) := by
    refine ⟨?_, r2.ex, fun i o ho => ?_, fun i j a h1 h2 => ?_, fun i a h1 => ?_⟩
    · have := r.len
      rw [List.length_map, List.length_map] at this
      rw [List.length_map, List.length_map, List.length_cons, List.length_cons, this]
    · cases i with
      | zero =>
        have ho' : some (some (O.ins c [] [])) = some (some o) := ho
        cases ho'
        exact ⟨.ref x, rfl, x, C, dx, [], rfl, upd_same, hC, rfl, .nil, fun a => Iff.rfl⟩
      | succ i => exact r2.rep i o ho
    · cases i with
      | zero =>
        cases j with
        | zero => rfl
        | succ j => exact absurd h1 (hnS j a h2)
      | succ i =>
        cases j with
        | zero => exact absurd h2 (hnS i a h1)
        | succ j => rw [r.dis i j a h1 h2]
    · cases i with
      | zero =>
        have h1' : a = x := h1
        subst h1'
        exact ⟨hBx, _, upd_same⟩
      | succ i => exact r2.own i a h1
  refine ⟨by rw [List.length_cons, hl], B, _, _, r3, ?_⟩
  have fr0 : Fr B H (tot S) B (L2.upd (L2.upd H dx (.own x)) x (.ins C dx [])) (tot fun i a => match i with
      | 0 => a = x
      | i + 1 => S i a) := by
    refine ⟨gg.b, fun a o q _ => gg.h a o q, fun a ⟨i, z⟩ => ?_, fun a o q => (gg.c a o q).elim .inl fun z => .inr (.inr z), fun a o q => ⟨o, gg.h a o q⟩⟩
    cases i with
    | zero => exact .inr (by have z' : a = x := z; rw [z']; exact hx)
    | succ i => exact .inl ⟨i, z⟩
  unfold mkIns at h
  cases q : F (O.ins c [] [] :: os) with
  | none => rw [q] at h; exact h.elim
  | some rf =>
    rw [q] at h
    cases rf with
    | ex y os1 =>
      cases os1 with
      | nil => exact h.elim
      | cons o1 os' =>
        intro C' d fs B' H' S' lo hC' r' hd hf hdn f'
        have h' : ∀ (C d : Addr) (fs : List (Str × V)) (B' H' : Hp) (S' : Nat → Addr → Prop), os'.length = vs.length → mg y.cls = some (.ref C) → Rp K B' H' (vs.map some) (os'.map some) S' → H' d = some (.xd fs) → XF K B' fs y.fs → H d = none → Fr B H (tot S) B' H' (tot S') → E (.ref C) (some d) H' := h
        refine h' C' d fs B' H' (fun i => S' (i + 1)) (by rw [List.length_cons, List.length_cons] at lo; omega) hC' ⟨by have := r'.len; simpa using this, r'.ex, fun i o ho => r'.rep (i + 1) o ho, fun i j a h1 h2 => by have := r'.dis (i + 1) (j + 1) a h1 h2; omega, fun i a h1 => r'.own (i + 1) a h1⟩ hd hf (gg.fr (tot S) |>.back hdn) ?_
        exact (fr0.trans f').imp (fun _ z => z) fun a ⟨i, z⟩ => ⟨i + 1, z⟩
    | ok o1 os1 =>
      match o1, os1, h with
      | .fr .non, .ins c' ns xs :: os', h =>
        intro v B' H' S' T lo vl f'
        have h' : ∀ v B' H' S' T, os'.length = vs.length → Vl K B' H' (vs.map some) (os'.map some) S' v (.fr (.ins c' ns xs)) T → Fr B H (tot S) B' H' (fun a => T a ∨ tot S' a) → Q v H' := h
        have hv := vl.ro.1
        cases hv
        refine ⟨rfl, ?_⟩
        obtain ⟨B2, w, hw, rw2, rp2, f2⟩ := vl.rp.freeze (i := 0) (o := .ins c' ns xs) rfl
        have hw' : some (some (V.ref x)) = some (some w) := hw
        cases hw'
        refine h' (.ref x) B2 H' (fun i => if i + 1 = 0 then noS else S' (i + 1)) noS (by rw [List.length_cons, List.length_cons] at lo; omega) (.fr ⟨by have := rp2.len; simpa using this, rp2.ex, fun i o ho => rp2.rep (i + 1) o ho, fun i j a h1 h2 => by have := rp2.dis (i + 1) (j + 1) a h1 h2; omega, fun i a h1 => rp2.own (i + 1) a h1⟩ rw2) ?_
        refine ((fr0.trans (f'.imp (fun _ z => z) fun a z => .inr z)).trans f2).imp (fun _ z => z) fun a z => ?_
        rcases z with z | ⟨i, z⟩
        · exact z.elim
        · exact ⟨i + 1, z⟩
/-- a class of the module, by its name: what its __init__ makes of a new instance -/
structure ClM (P : Program) (w : World) (K : PySem.W.Frag) (mg : Str → Option Value) (base : Heap) (k : Nat) (x : Str) (n : Nat) (F : Fn) : Prop where
  ex : ∃ (C f : Addr) (fd : FuncData) (ps : List Str), ps.length = n + 1 ∧ FnOk P w K mg base (L2N.CX P w) k f fd ps (spD K mg ps.length F) ∧ Mk K C f ∧ mg x = some (.ref C) ∧ ClsN K x C ∧ Binds K fd ps []
theorem run_makeSD {CX : CXT} {k : Nat} {f C : Addr} {fd : FuncData} {ps : List Str} {sp : Sp} {E : XK} {pins : List (Addr × Obj)} {σ : St} {H : Hp} {s : Shared} {Q : VK} {us : List Value} {vs : List V} (M : Mk X.K C f) (F : FnOk X.prog X.w X.K X.mg X.base CX k f fd ps sp) (hr : Room (k + 1) X.A) (hb : Binds X.K fd ps [])
    (hx : PassesAt CX X σ E) (I : Inv X pins σ H s) (r : Vals vs us)
    (h : ∀ x dx, H x = none → H dx = none → dx ≠ x → sp (.ref x :: vs) (L2.upd (L2.upd H dx (.own x)) x (.ins C dx [])) (fun v H2 => v = .non ∧ Q (.ref x) H2) E) :
    wpAny (model X.prog X.w) X.A (call (.ref C) us) (EP X pins σ Q) X.xe s := by
  have hq := h (s.heap.objs.size + 1) s.heap.objs.size (I.hok.fresh (Nat.le_succ _)) (I.hok.fresh (Nat.le_refl _)) (Nat.ne_of_lt (Nat.lt_succ_self _))
  have I2 := Inv.made (C := C) I
  have r2 : Vals (V.ref (s.heap.objs.size + 1) :: vs) (Value.ref (s.heap.objs.size + 1) :: us) := .cons rfl r
  have hl : (Value.ref (s.heap.objs.size + 1) :: us).length = ps.length := by
    have e := r2.length
    rw [F.len _ _ _ _ hq] at e
    exact e.symm
  refine wpAny_call (make_map (f := f) I.kIn M.makes M.init (beq_iff_eq.mp M.fn) (codeAny_mono (F.run _ X.stack _ _ ⟨Value.ref (s.heap.objs.size + 1) :: us, []⟩ (Value.ref (s.heap.objs.size + 1) :: us) _ _ E (hr.make C us [])
    (I2.env0.make C us []) (by have := hb _ (Value.ref (s.heap.objs.size + 1) :: us) I2.kIn (by rw [List.append_nil]; exact hl); rw [List.append_nil] at this; exact this) r2 hq) fun r s' hq' => ?_))
  cases r with
  | error e => exact hx pins _ _ e s' I2 hq'
  | ok fl =>
    cases fl with
    | ret u =>
      obtain ⟨v, H', I3, rv, ev, q3⟩ := I2.after hq'
      subst ev
      exact ⟨rv, ⟨V.ref (s.heap.objs.size + 1), H', I3, rfl, q3⟩⟩
    | next => exact False.elim hq'
    | brk => exact False.elim hq'
    | cont => exact False.elim hq'
theorem d_make {es : List Expr} {k j n : Nat} {F : Fn} {ps : List P} (C : ClM X.prog X.w X.K X.mg X.base k x n F) (hr : Room j X.A) (tk : L2N.Takes X W) (ha : PA X (e :: es) (tPs X.K X.mg W ps)) (hk : k + 1 ≤ j := by decide) (hg : Gl X x := by rfl) (hn : n = ps.length := by rfl) (nd : (bs ps).Nodup := by decide)
    (hdb : (x == ("__debug__" : Str)) = false := by decide) (he : starEach (e :: es) X.env = (false, eval e X.env) :: starEach es X.env := by rfl) (hpl : (backTo pos (starEach es X.env)).any (·.1) = false := by rfl) :
    PE X (.Call (.Name x p) (e :: es) [] pos) (tE X.K X.mg W (eCall (mkIns x F) ps [])) := by
  obtain ⟨C0, f, fd, pn, h0, h1, h2, h3, h4, h5⟩ := C.ex
  refine ⟨fun pins s σ H Q I h => ?_⟩
  have hc := call_core (X := X) (W := W) (n := n) (dvs := []) (dv := []) (F := mkIns x F) rfl (by rw [hn]; rfl) nd (fun _ => .nil) h
  refine wpAny_Call_Name_kw (ld_glob I hg h3 ?_ hdb)
  refine PySem.W.callWith_K (h₀ := X.base) I.ok.mod.kin h2.kp (thn (ha.run pos pins s σ H _ I hc) fun us s1 ⟨vs, H1, I1, r, q⟩ => ⟨I1.kIn, ?_⟩) he hpl
  have q1 : spD X.K X.mg n (mkIns x F) (vs ++ []) H1 Q (WE W σ) := q
  rw [List.append_nil] at q1
  have q' := spD_make h4 q1
  refine run_makeSD (E := WE W σ) h2 h1 (hr.mono hk) h5 (L2N.passAt tk σ) I1 r ?_
  rw [h0]
  exact q'
/-! ### e.f, a property -/
def ePrp (c : Str) (F : Fn) (f : M O) : M O := f.bind fun o e => match o.d with
  | .ins c' ns xs => if c' = c then (match F [.fr (.ins c' ns xs)] with
    | some (.ok r _) => some (.ok r e)
    | _ => none) else none
  | _ => none
structure PrpC (P : Program) (w : World) (K : PySem.W.Frag) (mg : Str → Option Value) (base : Heap) (k : Nat) (c f : Str) (F : Fn) : Prop where
  ex : ∃ (C p g : Addr) (fd : FuncData) (ps : List Str), ps.length = 1 ∧ ClsN K c C ∧ Cls K C ∧ PropOf K C f p g ∧ FnOk P w K mg base (L2N.CX P w) k g fd ps (spD K mg ps.length F) ∧ Binds K fd ps []
theorem d_prp {k j : Nat} {F : Fn} (C : PrpC X.prog X.w X.K X.mg X.base k c fn F) (hr : Room j X.A) (he : PE X e (tE X.K X.mg W f)) (hk : k + 1 ≤ j := by decide) (hab : attributeBase e fn X.env (eval e X.env) = eval e X.env := by rfl) : PE X (.Attribute e fn pos) (tE X.K X.mg W (ePrp c F f)) := by
  obtain ⟨C0, p0, g0, fd, ps, h0, h1, h2, h3, h4, h5⟩ := C.ex
  refine pe_imp (pe_prop (E := fun _ _ _ => False) he h2 h3 h4 (hr.mono hk) h5 .nil (fun pins σ H s e s' I c => ?_) hab) fun σ H Q h => ?_
  · obtain ⟨_, _, _, _, _, _, _, _, _, _, _, _, z⟩ := c
    exact z.elim
  · obtain ⟨B, e, S, r, h⟩ := h
    refine ⟨B, e, S, r, h.bind.imp (fun o e1 h9 v B1 H1 S1 T vl f1 => ?_) fun _ _ z => z⟩
    clear h
    obtain ⟨B2, vl2, f2⟩ := vl.freeze
    have f3 := fz_fr f1 f2
    have hrep := vl2.ro.1
    cases hd : o.d with
    | ins c' ns xs =>
      rw [hd] at h9 hrep
      dsimp only at h9
      by_cases hc : c' = c
      · rw [if_pos hc] at h9
        subst hc
        cases hrep with
        | ins k1 k2 k3 k4 =>
          rename_i a dx C' fs'
          obtain rfl := k2.one h1
          refine ⟨a, dx, fs', rfl, vl2.rp.ex _ _ k1, ?_⟩
          rw [h0]
          refine ⟨rfl, B2, [.fr (.ins c' ns xs)], fun _ => noS, ⟨rfl, vl2.rp.ex, fun i o ho => ?_, fun _ _ _ z => z.elim, fun _ _ z => z.elim⟩, ?_⟩
          · cases i with
            | zero =>
              have ho' : some (some (O.fr (.ins c' ns xs))) = some (some o) := ho
              cases ho'
              exact ⟨.ref a, rfl, .ins k1 k2 k3 k4, fun _ z => z⟩
            | succ i => simp at ho
          · cases q : F [.fr (.ins c' ns xs)] with
            | none => rw [q] at h9; exact h9.elim
            | some rf =>
              rw [q] at h9
              cases rf with
              | ex y os' => exact h9.elim
              | ok ro os' =>
                intro v' B' H' S' T' lo vl' f'
                have h' : ∀ v B' H' S' T, Vl X.K B' H' σ e1 S' v ro T → Fr B H (tot S) B' H' (fun a => T a ∨ tot S' a) → Q v H' := h9
                have fno : Fr B2 H1 noS B' H' (fun a => T' a ∨ tot S' a) := f'.imp (fun a ⟨_, z⟩ => z) fun _ z => z
                have keep : ∀ a o, H1 a = some o → H' a = some o := fun a o hh => fno.k a o hh fun z => z
                have gr : Gr B2 H1 B' H' := ⟨fno.b, keep, vl'.rp.ex, fun a o hh => (fno.c a o hh).elim .inl fun z => z.elim (fun z => z.elim) .inr⟩
                refine h' v' B' H' S1 T' ⟨vl2.rp.grow gr, vl'.ro, vl'.own, fun a ha ⟨i, hi⟩ => ?_⟩ ?_
                · obtain ⟨_, u, hu⟩ := vl2.rp.own i a hi
                  rcases fno.n a (.inl ha) with z | z
                  · exact z
                  · rw [hu] at z; cases z
                · refine f3.trans ⟨gr.b, fun a o hh _ => gr.h a o hh, fun a z => z.elim (fun z => (fno.n a (.inl z)).elim (fun y => y.elim) .inr) .inl, fun a o hh => (gr.c a o hh).elim .inl fun z => .inr (.inr z), fun a o hh => ⟨o, gr.h a o hh⟩⟩
      · rw [if_neg hc] at h9; exact h9.elim
    | _ => rw [hd] at h9; exact h9.elim
end
end Dn

namespace Dn
open PySem L2
open Evl (Ex)

/-! ## 47. max of a list of whole numbers; str.rfind -/
def maxL : List Int → Option Int
  | [] => none
  | [n] => some n
  | n :: ns => match maxL ns with
    | some m => some (if n ≤ m then m else n)
    | none => none
theorem maxL_spec : ∀ {ns : List Int} {m : Int}, maxL ns = some m → m ∈ ns ∧ ∀ y ∈ ns, y ≤ m
  | [n], m, h => by
    have : some n = some m := h
    cases this
    exact ⟨.head _, fun y hy => by cases hy with
      | head => exact Int.le_refl _
      | tail _ h => cases h⟩
  | n :: n' :: ns, m, h => by
    unfold maxL at h
    cases q : maxL (n' :: ns) with
    | none => rw [q] at h; cases h
    | some k =>
      rw [q] at h
      obtain ⟨a, b⟩ := maxL_spec q
      injection h with h
      by_cases hk : n ≤ k
      · rw [if_pos hk] at h
        subst h
        refine ⟨.tail _ a, fun y hy => ?_⟩
        cases hy with
        | head => exact hk
        | tail _ hy => exact b y hy
      · rw [if_neg hk] at h
        subst h
        refine ⟨.head _, fun y hy => ?_⟩
        cases hy with
        | head => exact Int.le_refl _
        | tail _ hy => have := b y hy; omega
theorem maxL_mem {ns : List Int} {m k : Int} (h : maxL ns = some m) (h1 : k ∈ ns) (h2 : ∀ y ∈ ns, y ≤ k) : k = m := by
  obtain ⟨a, b⟩ := maxL_spec h
  have := b k h1; have := h2 m a; omega
theorem maxL_some : ∀ {ns : List Int}, ns ≠ [] → ∃ m, maxL ns = some m
  | [], h => (h rfl).elim
  | [n], _ => ⟨n, rfl⟩
  | n :: n' :: ns, _ => by
    obtain ⟨m, e⟩ := maxL_some (ns := n' :: ns) (by simp)
    exact ⟨_, by unfold maxL; rw [e]⟩
def gMax1 : List D → Option O
  | [.lst ds] => match intsD ds with
    | some ns => (maxL ns).map iO
    | none => none
  | _ => none
theorem n_max1 {K : PySem.W.Frag} : SndN K (rMax K) gMax1 := fun B H vs ds o hx hr hg Q q => by
  unfold gMax1 at hg
  split at hg
  · split at hg
    · rename_i ns e
      obtain ⟨m, em, rfl⟩ := Option.map_eq_some_iff.mp hg
      obtain ⟨v, rfl, h⟩ := hr.one
      obtain ⟨p, xs, rfl, h1, h2⟩ := h
      rw [intsD_map e] at h2
      rw [repL_of_ints h2] at h1
      refine ⟨_, _, rfl, Evl.sq_of h1, ?_, fun k k1 k2 => ?_⟩
      · cases ns with
        | nil => cases em
        | cons _ _ => exact Nat.succ_pos _
      · rw [maxL_mem em k1 k2]; exact q.fr hx (.int _)
    · cases hg
  · cases hg
theorem gMax1_ints {ns : List Int} {m : Int} (h : maxL ns = some m) : gMax1 [.lst (ns.map .int)] = some (iO m) := by
  have e : intsD (ns.map D.int) = some ns := by
    clear h
    induction ns with
    | nil => rfl
    | cons n ns ih =>
      show (intsD (ns.map D.int)).map (n :: ·) = _
      rw [ih]; rfl
  show (match intsD (ns.map D.int) with
    | some ns => (maxL ns).map iO
    | none => none) = _
  rw [e]
  show (maxL ns).map iO = _
  rw [h]; rfl
def gRfind : List D → Option O
  | [.str a, .str b] => some (iO (PySem.Txt.rfind a b))
  | _ => none
theorem n_rfind {K : PySem.W.Frag} : SndM K (fun x xs H Q => ∃ a b, x = .str a ∧ xs = [.str b] ∧ Q (.int (PySem.Txt.rfind a b)) H) gRfind := fun B H x vs a ds o hx hr hl hg Q q => by
  unfold gRfind at hg
  split at hg
  · rename_i h; cases h; cases hg; cases hr
    obtain ⟨v, rfl, rv⟩ := hl.one
    cases rv
    exact ⟨_, _, rfl, rfl, q.fr hx (.int _)⟩
  · cases hg
theorem gRfind_z {a b : Str} : gRfind [.str a, .str b] = some (iO (PySem.Txt.rfind a b)) := rfl
/-! evaluation -/
theorem gFld_e {c f : Str} {ns : List Str} {xs : List D} {d : D} (h : getF ns xs f = some d) : gFld c f [.ins c ns xs] = some (.fr d) := by
  show (if c = c then (getF ns xs f).map O.fr else none) = _
  rw [if_pos rfl, h]; rfl
theorem sSetF_a (c f : Str) (i : Nat) (g : M O) (e : Sl) : sSetF c f i g e = @thn' _ _ (g e) ⟨fun o e1 => (match getO e1 i with
    | some (.ins c' ns xs) => if c' = c ∧ ns.length < 1000 then some (.ok .next (e1.set i (some (.ins c' (putFn ns f) (putFx ns xs f o.d))))) else none
    | _ => none)⟩ := by
  unfold sSetF
  rw [bind_a]
  refine thn_congr fun o e1 => ?_
  unfold getO
  cases h : e1[i]? with
  | none => rfl
  | some u => cases u with
    | none => rfl
    | some o1 => cases o1 <;> rfl
def prpV (F : Fn) (c : Str) (d : D) : Option O := match d with
  | .ins c' ns xs => if c' = c then (match F [.fr (.ins c' ns xs)] with
    | some (.ok r _) => some r
    | _ => none) else none
  | _ => none
def prpR (e : Sl) : Option O → Option (Ro O)
  | some r => some (.ok r e)
  | none => none
theorem prpR_s {e : Sl} {r : O} : prpR e (some r) = some (.ok r e) := nr rfl
theorem ePrp_a (c : Str) (F : Fn) (f : M O) (e : Sl) : ePrp c F f e = @thn' _ _ (f e) ⟨fun o e' => prpR e' (prpV F c o.d)⟩ := by
  unfold ePrp
  rw [bind_a]
  refine thn_congr fun o e1 => ?_
  unfold prpV
  cases o.d with
  | ins c' ns xs =>
    dsimp only
    by_cases h : c' = c
    · rw [if_pos h, if_pos h]
      cases F [.fr (.ins c' ns xs)] with
      | none => rfl
      | some r => cases r <;> rfl
    · rw [if_neg h, if_neg h]; rfl
  | _ => rfl
theorem prpV_i {F : Fn} {c : Str} {ns : List Str} {xs : List D} {r : O} {os : List O} (h : F [.fr (.ins c ns xs)] = some (.ok r os)) : prpV F c (.ins c ns xs) = some r := by
  show (if c = c then (match F [.fr (.ins c ns xs)] with
    | some (.ok r _) => some r
    | _ => none) else none) = _
  rw [if_pos rfl, h]
theorem mkIns_i {F : Fn} {c c' : Str} {ns : List Str} {xs : List D} {os os' : List O} (h : F (.ins c [] [] :: os) = some (.ok (.fr .non) (.ins c' ns xs :: os'))) : mkIns c F os = some (.ok (.fr (.ins c' ns xs)) os') := by
  unfold mkIns; rw [h]
end Dn

namespace Dn
open PySem L2
open Evl (Ex)

/-! ## 48. A comprehension over two sources -/
def lc2L (own : List Nat) (tg : Tg) (t : M Bool) (vs1 : List Nat) (src1 : M (List D)) (tg1 : Tg) (t1 : M Bool) (f : M O) : List D → List D → Sl → Option (List D × Sl)
  | [], acc, e => some (acc, e)
  | d :: ds, acc, e => match tg.go d e with
    | none => none
    | some e1 => match t e1 with
      | some (.ok b e2) => if b then (match src1 e2 with
          | some (.ok ds1 e3) => (match lcL vs1 tg1 t1 f ds1 acc (wipeE e3 vs1) with
            | some (acc', e4) => lc2L own tg t vs1 src1 tg1 t1 f ds acc' (wipeE e4 own)
            | none => none)
          | _ => none) else lc2L own tg t vs1 src1 tg1 t1 f ds acc (wipeE e2 own)
      | _ => none
def eComp2 (own : List Nat) (src : M (List D)) (tg : Tg) (t : M Bool) (vs1 : List Nat) (src1 : M (List D)) (tg1 : Tg) (t1 : M Bool) (f : M O) : M O := src.bind fun ds e => match lc2L own tg t vs1 src1 tg1 t1 f ds [] (wipeE e own) with
  | some (acc, e') => some (.ok (.lst acc) (restE e e' own))
  | none => none
section
variable {J : It} {n : Nat} {G : Hp → Prop} {Y : Nat → Hp → V → Hp → Prop}
theorem wk_gen (w : Walk J n G Y) {body : V → Hp → (Hp → Prop) → Prop} {H0 : Hp} {Qd : Hp → Prop} (Pv : Nat → Hp → Prop) (h0 : Pv 0 H0) (hG : ∀ i H, i ≤ n → Pv i H → G H)
    (hs : ∀ i x H H', i < n → Pv i H → Y i H x H' → body x H' (Pv (i + 1))) (hd : ∀ H, Pv n H → Qd H) :
    ∃ W : Nat → Nat → Hp → Prop, (∃ m, W 0 m H0) ∧ ∀ i m H, W i m H →
      (J.stop i H ∧ Qd H) ∨ (J.go i H ∧ ∃ Nx : Hp → Prop, (∀ H', Nx H' → ∃ m', m' < m ∧ W (i + 1) m' H') ∧ ∀ x H', J.yld i H x H' → body x H' Nx) := by
  refine ⟨fun i m H => m = n - i ∧ i ≤ n ∧ Pv i H, ⟨n, by simp, Nat.zero_le _, h0⟩, ?_⟩
  rintro i m H ⟨rfl, hi, p⟩
  have q := hG i H hi p
  by_cases hlt : i < n
  · refine .inr ⟨w.goes i H hlt q, Pv (i + 1), fun H' p' => ⟨n - (i + 1), by omega, rfl, hlt, p'⟩, fun x H' y => hs i x H H' hlt p (w.yields i H x H' hlt q y)⟩
  · have e : i = n := by omega
    subst e
    exact .inl ⟨w.stops H q, hd H p⟩
end
section
variable {K : PySem.W.Frag} {mg : Str → Option Value} {W : WX} {B B' B2 H H' H2 : Hp} {v : V} {o : O} {σ σ' : St} {e e' : Sl} {S S' : Nat → Addr → Prop} {T T' : Addr → Prop}
theorem el_run {own : List Nat} {tg : Tg} {t : M Bool} {f : M O} {D : Addr} {acc ds : List Dn.D} {x : V} {d : Dn.D} {R : List Dn.D × Sl} {P : Hp → Prop} (hk : ∀ i ∈ tg.ix, i ∈ own) (vl : Vl K B' H' (L2.wipe σ own) e' S' (.ref D) (.lst acc) (fun a => a = D)) (gr : Gr B' H' B2 H2) (rv : Rep K B2 x d)
    (h' : lcL own tg t f (d :: ds) acc e' = some R)
    (hP : ∀ B'' H'' e'' S'' acc'', Vl K B'' H'' (L2.wipe σ own) e'' S'' (.ref D) (.lst acc'') (fun a => a = D) → Fr B' H' (fun a => a = D ∨ tot S' a) B'' H'' (fun a => a = D ∨ tot S'' a) → Ex B' B'' → lcL own tg t f ds acc'' e'' = some R → P H'') :
    tTg K tg x (L2.wipe σ own) H2 fun σ2 H2' => L2.wipe σ2 own = L2.wipe σ own ∧ tT K mg (fun _ _ _ _ => False) t σ2 H2' fun b H3 => if b = true then tE K mg (fun _ _ _ _ => False) f σ2 H3 fun y H4 => ∃ acc, H4 D = some (.lst acc) ∧ acc.length < sizeLine ∧ P (L2.upd H4 D (.lst (acc ++ [y]))) else P H3 := by
  unfold lcL at h'
  have r2 := vl.rp.grow gr
  have ro2 := vl.ro.grow gr
  have ow2 := vl.own.grow gr
  cases qt : tg.go d e' with
  | none => rw [qt] at h'; cases h'
  | some e2 =>
    rw [qt] at h'
    dsimp only at h'
    refine tg_run (ks := []) r2 rv qt (fun _ _ z => nomatch z) fun σ3 S3 r3 _ t3 n3 => ?_
    have wσ : L2.wipe σ3 own = L2.wipe σ own := by
      rw [← wipe_wipe σ own]
      exact wipe_eq (r3.len.trans ((go_len qt).trans r2.len.symm)) fun j hj => n3 j fun z => hj (hk j z)
    refine ⟨wσ, B2, e2, S3, r3, ?_⟩
    have dj3 : ∀ a, a = D → ¬ tot S3 a := fun a ha z => vl.dj a ha (t3 a z)
    have f3 : Fr B' H' (fun a => a = D ∨ tot S' a) B2 H2 (fun a => a = D ∨ tot S3 a) := (gr.fr _).imp (fun _ z => z) fun a z => z.elim .inl fun z => .inr (t3 a z)
    cases qc : t e2 with
    | none => rw [qc] at h'; cases h'
    | some rc =>
      rw [qc] at h'
      cases rc with
      | ex _ _ => cases h'
      | ok b e4 =>
        intro B4 H4 S4 r4 f4
        obtain ⟨ro4, ow4, dj4⟩ := ro2.frame ow2 dj3 f4
        have f34 := f3.trans (f4.both fun a => a = D)
        cases b with
        | false =>
          exact iteF (hP B4 H4 _ S4 acc ⟨by rw [← wσ]; exact r4.wipe own, ro4, ow4, dj4⟩ f34 (gr.b.trans f4.b) h')
        | true =>
          refine iteT ⟨B4, e4, S4, r4, ?_⟩
          cases qf : f e4 with
          | none => simp only [qf, if_true] at h'; cases h'
          | some rf =>
            simp only [qf, if_true] at h'
            cases rf with
            | ex _ _ => cases h'
            | ok o e5 =>
              intro y B5 H5 S5 T5 vl5 f5
              obtain ⟨B6, vl6, f6⟩ := vl5.freeze
              have f56 : Fr B4 H4 (tot S4) B6 H5 (tot S5) := f5.trans ⟨f6.b, fun a o q _ => q, fun a z => .inl (.inr z), fun a u q => (f6.c a u q).elim .inl fun z => .inr (z.elim (fun z => .inl (.inl z)) .inr), fun a o q => ⟨o, q⟩⟩
              obtain ⟨ro6, ow6, dj6⟩ := ro4.frame ow4 dj4 f56
              obtain ⟨p, xs, ep, hp, rl, hs⟩ := ro6
              cases ep
              dsimp only at h'
              split at h'
              · rename_i hlen
                refine ⟨xs, hp, by rw [rl.length]; exact hlen, hP B6 _ _ S5 _ ⟨?_, ⟨D, _, rfl, upd_same, rl.append (.one vl6.ro.1), fun a => Iff.rfl⟩, fun a ha => ⟨(ow6 a ha).1, by subst ha; exact ⟨_, upd_same⟩⟩, dj6⟩ ?_ (gr.b.trans (f4.b.trans f56.b)) h'⟩
                · rw [← wσ]
                  exact (vl6.rp.wipe own).upd (ow6 D rfl).1 fun i z => dj6 D rfl ⟨i, z⟩
                · exact (f34.trans (f56.both fun a => a = D)).trans (Fr.upd hp (.inl rfl))
              · cases h'
theorem wipe_sub {σ : St} {vs own : List Nat} (h : ∀ i ∈ vs, i ∈ own) : L2.wipe (L2.wipe σ vs) own = L2.wipe σ own :=
  wipe_eq (wipe_length σ vs) fun j hj => by rw [wipe_at, if_neg fun z => hj (h j z)]
theorem comp2_run {own vs1 : List Nat} {tg tg1 : Tg} {t t1 : M Bool} {f : M O} {src src1 : M (List D)} {Q : VK} (hk : ∀ i ∈ tg.ix, i ∈ own) (hk1 : ∀ i ∈ tg1.ix, i ∈ vs1) (hv : ∀ i ∈ vs1, i ∈ own) (h : tE K mg W (eComp2 own src tg t vs1 src1 tg1 t1 f) σ H Q) :
    tLc2 (tSrc K mg W src) (tTg K tg) (tT K mg (fun _ _ _ _ => False) t) (tSrc K mg (fun _ _ _ _ => False) src1) (tTg K tg1) (tT K mg (fun _ _ _ _ => False) t1) (tE K mg (fun _ _ _ _ => False) f) own vs1 σ H Q := by
  obtain ⟨B, e, S, r, h⟩ := h
  refine ⟨B, e, S, r, h.bind.imp (fun ds e1 h J B1 H1 S1 r1 f1 wd D hD => ?_) fun _ _ z => z⟩
  obtain ⟨G, Y, wk, hG, hY⟩ := wd
  cases q : lc2L own tg t vs1 src1 tg1 t1 f ds [] (wipeE e1 own) with
  | none => rw [q] at h; exact h.elim
  | some res =>
    obtain ⟨accF, eF⟩ := res
    rw [q] at h
    have h0 : ∀ v B' H' S' T, Vl K B' H' σ (restE e1 eF own) S' v (.lst accF) T → Fr B H (tot S) B' H' (fun a => T a ∨ tot S' a) → Q v H' := h
    have hbD : B1 D = none := by
      cases qd : B1 D with
      | none => rfl
      | some u => have := r1.ex D u qd; rw [hD] at this; cases this
    have hsD : ∀ i, ¬ S1 i D := fun i z => by
      obtain ⟨_, o, ho⟩ := r1.own i D z
      rw [hD] at ho; cases ho
    have own1 : Own B1 (L2.upd H1 D (.lst [])) (fun a => a = D) := fun a ha => by subst ha; exact ⟨hbD, _, upd_same⟩
    refine wk_gen wk (body := fun x H' Nx => tTg K tg x (L2.wipe σ own) H' fun σ2 H2 => L2.wipe σ2 own = L2.wipe σ own ∧ tT K mg (fun _ _ _ _ => False) t σ2 H2 fun b H3 =>
      if b = true then tSrc K mg (fun _ _ _ _ => False) src1 σ2 H3 fun J1 H4 => ∃ W1 : Nat → Nat → Hp → Prop, (∃ m, W1 0 m H4) ∧ ∀ j k H, W1 j k H →
        (J1.stop j H ∧ Nx H) ∨ (J1.go j H ∧ ∃ Nx1 : Hp → Prop, (∀ H', Nx1 H' → ∃ k', k' < k ∧ W1 (j + 1) k' H') ∧ ∀ x H', J1.yld j H x H' → tTg K tg1 x (L2.wipe σ2 vs1) H' fun σ3 H5 => L2.wipe σ3 vs1 = L2.wipe σ2 vs1 ∧ tT K mg (fun _ _ _ _ => False) t1 σ3 H5 fun b H6 =>
          if b = true then tE K mg (fun _ _ _ _ => False) f σ3 H6 fun y H7 => ∃ acc, H7 D = some (.lst acc) ∧ acc.length < sizeLine ∧ Nx1 (L2.upd H7 D (.lst (acc ++ [y]))) else Nx1 H6)
      else Nx H3)
      (fun i H' => ∃ B' e' S' acc, Vl K B' H' (L2.wipe σ own) e' S' (.ref D) (.lst acc) (fun a => a = D) ∧ Fr B H (tot S) B' H' (fun a => a = D ∨ tot S' a) ∧ Ex B1 B' ∧ lc2L own tg t vs1 src1 tg1 t1 f (ds.drop i) acc e' = some (accF, eF))
      ⟨B1, wipeE e1 own, S1, [], ⟨(r1.upd hbD hsD).wipe own, ⟨D, [], rfl, upd_same, .nil, fun a => Iff.rfl⟩, own1, fun a ha ⟨i, z⟩ => hsD i (ha ▸ z)⟩, ?_, Ex.refl _, by rw [List.drop_zero]; exact q⟩
      (fun i H' hi ⟨B', e', S', acc, vl, f', x', h'⟩ => hG _ (x'.trans vl.rp.ex)) (fun i x H' H2 hi ⟨B', e', S', acc, vl, f', x', h'⟩ hy => ?_) fun H' ⟨B', e', S', acc, vl, f', x', h'⟩ => ?_
    · refine f1.trans ⟨Ex.refl _, fun a o ha _ => ?_, fun a z => z.elim (fun z => .inr (by rw [z]; exact hD)) .inl, fun _ _ z => .inl z, fun a o ha => ⟨o, ?_⟩⟩
      · rw [upd_ne (ne_of_none ha hD)]; exact ha
      · rw [upd_ne (ne_of_none ha hD)]; exact ha
    · obtain ⟨B2, d, gr, hd, rv⟩ := hY i H' x H2 B' hi x' vl.rp.ex hy
      have ed : ds.drop i = d :: ds.drop (i + 1) := by
        rw [List.drop_eq_getElem_cons hi]
        rw [List.getElem?_eq_getElem hi] at hd
        cases hd
        rfl
      rw [ed] at h'
      unfold lc2L at h'
      have r2 := vl.rp.grow gr
      have ro2 := vl.ro.grow gr
      have ow2 := vl.own.grow gr
      cases qt : tg.go d e' with
      | none => rw [qt] at h'; cases h'
      | some e2 =>
        rw [qt] at h'
        dsimp only at h'
        refine tg_run (ks := []) r2 rv qt (fun _ _ z => nomatch z) fun σ3 S3 r3 _ t3 n3 => ?_
        have wσ : L2.wipe σ3 own = L2.wipe σ own := by
          rw [← wipe_wipe σ own]
          exact wipe_eq (r3.len.trans ((go_len qt).trans r2.len.symm)) fun j hj => n3 j fun z => hj (hk j z)
        refine ⟨wσ, B2, e2, S3, r3, ?_⟩
        have dj3 : ∀ a, a = D → ¬ tot S3 a := fun a ha z => vl.dj a ha (t3 a z)
        have f3 : Fr B H (tot S) B2 H2 (fun a => a = D ∨ tot S3 a) := (f'.trans (gr.fr _)).imp (fun _ z => z) fun a z => z.elim .inl fun z => .inr (t3 a z)
        cases qc : t e2 with
        | none => rw [qc] at h'; cases h'
        | some rc =>
          rw [qc] at h'
          cases rc with
          | ex _ _ => cases h'
          | ok b e4 =>
            intro B4 H4 S4 r4 f4
            obtain ⟨ro4, ow4, dj4⟩ := ro2.frame ow2 dj3 f4
            have f34 := f3.trans (f4.both fun a => a = D)
            cases b with
            | false =>
              exact iteF ⟨B4, _, S4, acc, ⟨by rw [← wσ]; exact r4.wipe own, ro4, ow4, dj4⟩, f34, (x'.trans gr.b).trans f4.b, h'⟩
            | true =>
              refine iteT ⟨B4, e4, S4, r4, ?_⟩
              cases qs : src1 e4 with
              | none => simp only [qs, if_true] at h'; cases h'
              | some rs =>
                simp only [qs, if_true] at h'
                cases rs with
                | ex _ _ => cases h'
                | ok ds1 e5 =>
                  dsimp only at h'
                  intro J1 B5 H5 S5 r5 f5 wd1
                  obtain ⟨G1, Y1, wk1, hG1, hY1⟩ := wd1
                  obtain ⟨ro5, ow5, dj5⟩ := ro4.frame ow4 dj4 f5
                  have f45 := f34.trans (f5.both fun a => a = D)
                  cases ql : lcL vs1 tg1 t1 f ds1 acc (wipeE e5 vs1) with
                  | none => rw [ql] at h'; cases h'
                  | some r6 =>
                    obtain ⟨acc4, e6⟩ := r6
                    rw [ql] at h'
                    dsimp only at h'
                    refine wk_gen wk1 (body := fun x H' Nx1 => tTg K tg1 x (L2.wipe σ3 vs1) H' fun σ4 H5 => L2.wipe σ4 vs1 = L2.wipe σ3 vs1 ∧ tT K mg (fun _ _ _ _ => False) t1 σ4 H5 fun b H6 =>
                        if b = true then tE K mg (fun _ _ _ _ => False) f σ4 H6 fun y H7 => ∃ acc, H7 D = some (.lst acc) ∧ acc.length < sizeLine ∧ Nx1 (L2.upd H7 D (.lst (acc ++ [y]))) else Nx1 H6)
                      (fun j H' => ∃ B' e' S' acc, Vl K B' H' (L2.wipe σ3 vs1) e' S' (.ref D) (.lst acc) (fun a => a = D) ∧ Fr B H (tot S) B' H' (fun a => a = D ∨ tot S' a) ∧ Ex B5 B' ∧ lcL vs1 tg1 t1 f (ds1.drop j) acc e' = some (acc4, e6))
                      ⟨B5, wipeE e5 vs1, S5, acc, ⟨r5.wipe vs1, ro5, ow5, dj5⟩, f45, Ex.refl _, by rw [List.drop_zero]; exact ql⟩
                      (fun j H' hj ⟨B', e', S', acc, vl, f', x', h'⟩ => hG1 _ (x'.trans vl.rp.ex)) (fun j x H' H2 hj ⟨B', e', S', acc, vl, f7, x7, h7⟩ hy => ?_) fun H' ⟨B', e', S', acc', vl, f7, x7, h7⟩ => ?_
                    · obtain ⟨B7, d1, gr1, hd1, rv1⟩ := hY1 j H' x H2 B' hj x7 vl.rp.ex hy
                      have ed1 : ds1.drop j = d1 :: ds1.drop (j + 1) := by
                        rw [List.drop_eq_getElem_cons hj]
                        rw [List.getElem?_eq_getElem hj] at hd1
                        cases hd1
                        rfl
                      rw [ed1] at h7
                      exact el_run hk1 vl gr1 rv1 h7 fun B'' H'' e'' S'' acc'' vl8 f8 x8 h8 => ⟨B'', e'', S'', acc'', vl8, f7.trans f8, x7.trans x8, h8⟩
                    · rw [List.drop_length] at h7
                      have h8 : some (acc', e') = some (acc4, e6) := h7
                      obtain ⟨a1, a2⟩ : acc' = acc4 ∧ e' = e6 := by injection h8 with h8; injection h8 with a b; exact ⟨a, b⟩
                      rw [← a1, ← a2] at h'
                      refine ⟨B', wipeE e' own, S', acc', ⟨?_, vl.ro, vl.own, vl.dj⟩, f7, ((x'.trans gr.b).trans f4.b).trans (f5.b.trans x7), h'⟩
                      have := vl.rp.wipe own
                      rw [wipe_sub hv, wσ] at this
                      exact this
    · rw [List.drop_length] at h'
      have h2 : some (acc, e') = some (accF, eF) := h'
      cases h2
      refine h0 (.ref D) B' H' (fun j => if j ∈ own then noS else S' j) (fun a => a = D) ⟨⟨by rw [restE_len, ← vl.rp.len, wipe_length], vl.rp.ex, fun j o ho => ?_, fun i j a h1 h2 => ?_, fun j a h1 => ?_⟩, vl.ro, vl.own, fun a ha ⟨j, z⟩ => ?_⟩ (f'.imp (fun _ z => z) fun a z => z.elim .inl fun ⟨j, z⟩ => ?_)
      · have hin : ∀ o, eF[j]? = some (some o) → j ∉ own := fun o ho hj => by
          obtain ⟨v, hv, _⟩ := vl.rp.rep j o ho
          rw [wipe_at, if_pos hj] at hv
          cases qq : σ[j]? with
          | none => rw [qq] at hv; cases hv
          | some u => rw [qq] at hv; cases hv
        rcases restE_at ho with ⟨a, b, d, rfl⟩ | a
        · obtain ⟨v, hv, ro⟩ := r1.rep j _ b
          exact ⟨v, hv, by rw [if_pos a]; exact ⟨ro.1.mono x', fun _ z => z⟩⟩
        · obtain ⟨v, hv, ro⟩ := vl.rp.rep j o a
          have hj := hin o a
          rw [wipe_at, if_neg hj] at hv
          exact ⟨v, hv, by rw [if_neg hj]; exact ro⟩
      · skip
        by_cases hi : i ∈ own
        · rw [if_pos hi] at h1; exact h1.elim
        · by_cases hj : j ∈ own
          · rw [if_pos hj] at h2; exact h2.elim
          · rw [if_neg hi] at h1; rw [if_neg hj] at h2; exact vl.rp.dis i j a h1 h2
      · skip
        by_cases hj : j ∈ own
        · rw [if_pos hj] at h1; exact h1.elim
        · rw [if_neg hj] at h1; exact vl.rp.own j a h1
      · dsimp only at z
        by_cases hj : j ∈ own
        · rw [if_pos hj] at z; exact z.elim
        · rw [if_neg hj] at z; exact vl.dj a ha ⟨j, z⟩
      · dsimp only at z
        by_cases hj : j ∈ own
        · rw [if_pos hj] at z; exact z.elim
        · rw [if_neg hj] at z; exact .inr ⟨j, z⟩
end
section
variable {X : Cx} {W : WX}
theorem d_comp2 {elt tgt iter tgt1 iter1 : Expr} {ifs ifs1 : List Expr} {scope : Scope} {own : List (Str × Nat)} {vs1 : List Nat} {pos : Pos} {src src1 : M (List D)} {tg tg1 : Tg} {t t1 : M Bool} {f : M O} (hc : X.calm = true) (hN : X.N.Nodup) (hi : PI X tgt iter (tSrc X.K X.mg W src)) (ok : BlkOk X.N X.env.scope scope own)
    (hg : ∀ (s : Shared) (H : Hp) (C : Addr) (cl : List (Str × Addr)) (fp : List Addr), PG (X.blk s H scope (compEnvC scope cl C X.env) fp) tgt (tTg X.K tg)) (ht : ∀ (s : Shared) (H : Hp) (C : Addr) (cl : List (Str × Addr)) (fp : List Addr), PTs (X.blk s H scope (compEnvC scope cl C X.env) fp) ifs (tT X.K X.mg WF t))
    (hi1 : ∀ (s : Shared) (H : Hp) (C : Addr) (cl : List (Str × Addr)) (fp : List Addr), PI (X.blk s H scope (compEnvC scope cl C X.env) fp) tgt1 iter1 (tSrc X.K X.mg WF src1))
    (hg1 : ∀ (s : Shared) (H : Hp) (C : Addr) (cl : List (Str × Addr)) (fp : List Addr), PG (X.blk s H scope (compEnvC scope cl C X.env) fp) tgt1 (tTg X.K tg1)) (ht1 : ∀ (s : Shared) (H : Hp) (C : Addr) (cl : List (Str × Addr)) (fp : List Addr), PTs (X.blk s H scope (compEnvC scope cl C X.env) fp) ifs1 (tT X.K X.mg WF t1))
    (he : ∀ (s : Shared) (H : Hp) (C : Addr) (cl : List (Str × Addr)) (fp : List Addr), PE (X.blk s H scope (compEnvC scope cl C X.env) fp) elt (tE X.K X.mg WF f)) (hk : ∀ i ∈ tg.ix, i ∈ own.map (·.2)) (hk1 : ∀ i ∈ tg1.ix, i ∈ vs1) (hv : ∀ i ∈ vs1, i ∈ own.map (·.2)) (hs : ∀ x, foldedSetIterable iter X.env x = pure x := by intro _; rfl) (hs1 : ∀ env x, foldedSetIterable iter1 env x = pure x := by intro _ _; rfl) :
    PE X (.ListComp elt [⟨tgt, iter, ifs, 0⟩, ⟨tgt1, iter1, ifs1, 0⟩] scope pos) (tE X.K X.mg W (eComp2 (own.map (·.2)) src tg t vs1 src1 tg1 t1 f)) := pe_imp (pe_lc2 hc hN hi ok hv hg ht hi1 hg1 ht1 he hs hs1) fun _ _ _ h => comp2_run hk hk1 hv h
end
theorem eComp2_e (own : List Nat) (src : M (List D)) (tg : Tg) (t : M Bool) (vs1 : List Nat) (src1 : M (List D)) (tg1 : Tg) (t1 : M Bool) (f : M O) (e : Sl) : eComp2 own src tg t vs1 src1 tg1 t1 f e = @thn' _ _ (src e) ⟨fun ds e' => lcR own e' (lc2L own tg t vs1 src1 tg1 t1 f ds [] (wipeE e' own))⟩ := nr rfl
/-! ## 49. list.index of a text -/
def idxS : List Str → Str → Option Nat
  | [], _ => none
  | y :: ys, k => if y = k then some 0 else (idxS ys k).map (· + 1)
theorem idxS_spec : ∀ {ys : List Str} {k : Str} {j : Nat}, idxS ys k = some j → ys[j]? = some k ∧ ∀ (m : Nat) (z : Str), m < j → ys[m]? = some z → z ≠ k
  | [], _, _, h => by cases h
  | y :: ys, k, j, h => by
    unfold idxS at h
    by_cases e : y = k
    · rw [if_pos e] at h
      cases h
      exact ⟨by rw [e]; rfl, fun m z hm _ => by omega⟩
    · rw [if_neg e] at h
      obtain ⟨i, h1, rfl⟩ := Option.map_eq_some_iff.mp h
      obtain ⟨a, b⟩ := idxS_spec h1
      refine ⟨a, fun m z hm hz => ?_⟩
      cases m with
      | zero => cases hz; exact e
      | succ m => exact b m z (by omega) hz
def gLIndex : List D → Option O
  | [.lst ds, .str k] => match strsD ds with
    | some ys => (idxS ys k).map fun j => iO (j : Nat)
    | none => none
  | _ => none
theorem n_lindex {K : PySem.W.Frag} : SndM K (rIndex K) gLIndex := fun B H x vs a ds o hx ha hr hg Q q => by
  unfold gLIndex at hg
  split at hg
  · rename_i _ ls k e
    injection e with e1 e2
    subst e1 e2
    split at hg
    · rename_i ys h1
      obtain ⟨j, hj, rfl⟩ := Option.map_eq_some_iff.mp hg
      have e3 := strsD_of h1
      subst e3
      obtain ⟨p, xs, rfl, h2, h3⟩ := ha
      obtain ⟨y, rfl, h4⟩ := hr.one
      cases h4
      have e4 := repL_of_strs h3
      subst e4
      obtain ⟨a1, a2⟩ := idxS_spec hj
      refine ⟨p, _, _, j, .str k, rfl, rfl, Evl.sq_of h2, rfl, ?_, ?_, ?_, fun m z hm hz => ?_, q.fr hx (.int _)⟩
      · rw [List.all_map]; exact List.all_eq_true.mpr fun _ _ => rfl
      · rw [List.getElem?_map, a1]; rfl
      · simp [eqV]
      · rw [List.getElem?_map] at hz
        obtain ⟨z', hz', rfl⟩ := Option.map_eq_some_iff.mp hz
        have := a2 m z' hm hz'
        simp [eqV, this]
    · cases hg
  · cases hg
theorem gLIndex_s {ys : List Str} {k : Str} {j : Nat} (h : idxS ys k = some j) : gLIndex [.lst (ys.map D.str), .str k] = some (iO (j : Nat)) := by
  have e : strsD (ys.map D.str) = some ys := by
    clear h
    induction ys with
    | nil => rfl
    | cons y ys ih => show (strsD (ys.map D.str)).map (y :: ·) = _; rw [ih]; rfl
  show (match strsD (ys.map D.str) with
    | some ys => (idxS ys k).map fun j => iO (j : Nat)
    | none => none) = _
  rw [e]
  show (idxS ys k).map _ = _
  rw [h]; rfl
end Dn

namespace Dn
open PySem L2
open Evl (Ex)

/-! ## 50. str of a text or a whole number; join of a tuple -/
def gStr2 : List D → Option O
  | [.int i] => if i.natAbs.log2 < 1920 then some (sO (toString i)) else none
  | [.str z] => some (sO z)
  | _ => none
theorem call_str2 {X : Cx} : CallR X (.type "str") (fun xs H Q => (∃ i : Int, xs = [.int i] ∧ i.natAbs.log2 < 1920 ∧ Q (.str (toString i)) H) ∨ ∃ a, xs = [.str a] ∧ Q (.str a) H) := by
  intro pins s σ H xs us Q I r h
  rcases h with h | h
  · exact call_str_int pins s σ H xs us Q I r h
  · exact SkE.call_str_str pins s σ H xs us Q I r h
theorem n_str2 {K : PySem.W.Frag} : SndN K (fun xs H Q => (∃ i : Int, xs = [.int i] ∧ i.natAbs.log2 < 1920 ∧ Q (.str (toString i)) H) ∨ ∃ a, xs = [.str a] ∧ Q (.str a) H) gStr2 := by
  intro B H vs ds o hx hr hg Q q
  unfold gStr2 at hg
  split at hg
  · split at hg
    · obtain ⟨v, rfl, h1⟩ := hr.one
      cases h1
      injection hg with hg
      subst hg
      exact .inl ⟨_, rfl, by assumption, q.fr hx (.str _)⟩
    · cases hg
  · obtain ⟨v, rfl, h1⟩ := hr.one
    cases h1
    injection hg with hg
    subst hg
    exact .inr ⟨_, rfl, q.fr hx (.str _)⟩
  · cases hg
theorem gStr2_z {z : Str} : gStr2 [.str z] = some (sO z) := nr rfl
theorem gStr2_i {i : Int} (h : i.natAbs.log2 < 1920) : gStr2 [.int i] = some (sO (toString i)) := if_pos h
def gJoinT : List D → Option O
  | [.str a, .tup ds] => (strsD ds).bind fun ys => if (ys.map (·.length)).sum + ys.length * a.length ≤ 16777216 then some (sO (Txt.join a ys)) else none
  | _ => none
theorem n_joinT {K : PySem.W.Frag} : SndM K (fun x xs H Q => ∃ a p, ∃ ys : List Str, x = .str a ∧ xs = [.ref p] ∧ (SqL K H p (ys.map V.str) ∨ SqT K H p (ys.map V.str)) ∧ (ys.map (·.length)).sum + ys.length * a.length ≤ 16777216 ∧ Q (.str (Txt.join a ys)) H) gJoinT := fun B H x vs a ds o hx hr hl hg Q q => by
  unfold gJoinT at hg
  split at hg
  · rename_i h; cases h
    obtain ⟨ys, e1, hg⟩ := Option.bind_eq_some_iff.mp hg
    split at hg
    · rename_i hz
      cases hg; cases hr
      obtain ⟨v, rfl, rv⟩ := hl.one
      have rv' : Rep K B v (.tup _) := rv
      cases rv' with
      | tup h1 h2 =>
        rw [strsD_map e1] at h2
        rw [repL_of_strs h2] at h1
        exact ⟨_, _, ys, rfl, rfl, .inr (Evl.ex_t hx h1.sq), hz, q.fr hx (.str _)⟩
    · cases hg
  · cases hg
theorem gJoinT_eq {a : Str} {ds : List D} : gJoinT [.str a, .tup ds] = gJoin [.str a, .lst ds] := nr rfl
end Dn

namespace Dn
open PySem L2
open Evl (Ex)

/-! ## 48. zip of two lists -/
def sZipE (f g : M O) : M (List D) := (items [f, g]).bind fun ds e => match ds with
  | [.lst xs, .lst ys] => some (.ok (zipD xs ys) e)
  | _ => none
section
variable {X : Cx} {W : WX} {e e2 : Expr} {pos p : Pos} {f g : M O}
theorem i_zip {elts : List Expr} {kk : Nat} {tpos : Pos} (hg : Gl X "zip") (hm : X.mg "zip" = none) (ha : PE X e (tE X.K X.mg W f)) (hb : PE X e2 (tE X.K X.mg W g))
    (hs : starEach [e, e2] X.env = (false, eval e X.env) :: starEach [e2] X.env := by rfl) (hs2 : starEach [e2] X.env = (false, eval e2 X.env) :: starEach [] X.env := by rfl) (hpl : (backTo pos (starEach [e2] X.env)).any (·.1) = false := by rfl) :
    PI X (.Tuple elts kk tpos) (.Call (.Name "zip" p) [e, e2] [] pos) (tSrc X.K X.mg W (sZipE f g)) := pi_imp (pi_zip hg hm (is_c (f := f) ha (is_c (f := g) hb is_n hs2) hs) hs hpl) fun σ H R h => by
  obtain ⟨B, e, S, r, h⟩ := h
  refine items_run [f, g] _ r (h.bind.imp (fun ds e' h2 vs B' H' S' r' rl fr => ?_) fun _ _ z => z)
  cases rl with
  | nil => exact h2.elim
  | cons rv rl =>
    cases rl with
    | nil => cases rv <;> exact h2.elim
    | cons rw rl =>
      cases rl with
      | cons _ _ => cases rv <;> first | exact h2.elim | (cases rw <;> exact h2.elim)
      | nil =>
        cases rv with
        | lst k1 k2 =>
          cases rw with
          | lst j1 j2 => exact ⟨_, _, _, _, rfl, Evl.sq_of (r'.ex _ _ k1), Evl.sq_of (r'.ex _ _ j1), (show ∀ J B' H' S', Rp X.K B' H' σ e' S' → Fr B H (tot S) B' H' (tot S') → WalkD X.K J B' _ → R J H' from h2) _ B' H' S' r' fr (walkD_zip (Evl.sq_of k1) (Evl.sq_of j1) k2 j2)⟩
          | _ => exact h2.elim
        | _ => exact h2.elim
end
section
variable {e : Sl}
theorem sZipE_e (f g : M O) : sZipE f g e = @thn' _ _ (f e) ⟨fun o e1 => @thn' _ _ (g e1) ⟨fun o2 e2 => match [o.d, o2.d] with
  | [.lst xs, .lst ys] => some (.ok (zipD xs ys) e2)
  | _ => none⟩⟩ := by
  unfold sZipE M.bind
  rw [items_c]
  cases f e with
  | none => rfl
  | some r => cases r with
    | ex x e1 => rfl
    | ok o e1 =>
      rw [thn_ok, thn_ok]
      dsimp only
      rw [items_c]
      cases g e1 with
      | none => rfl
      | some r => cases r <;> rfl
end
end Dn

namespace Dn
open PySem L2
open Evl (Ex)

/-! ## 49. Trees of one's own -/
mutual
/-- the data of a tree -/
def T.d : T → D
  | .fr d => d
  | .lst xs => .lst xs
  | .dct ks xs => .dct ks xs
  | .dtt _ _ => .opq
  | .tup ts => .tup (T.ds ts)
  | .ins c ns ts => .ins c ns (T.ds ts)
def T.ds : List T → List D
  | [] => []
  | t :: ts => T.d t :: T.ds ts
end
def O.t : O → T
  | .fr d => .fr d
  | .lst xs => .lst xs
  | .dct ks xs => .dct ks xs
  | .ins c ns xs => .ins c ns (xs.map .fr)
  | .exn _ _ _ => .fr .opq
  | .tr t => t
/-- what a slot's content is, all of it -/
def O.dd : O → D
  | .tr t => t.d
  | o => o.d
section
variable {K : PySem.W.Frag} {mg : Str → Option Value} {W : WX} {B B' H H' : Hp} {v : V} {o : O} {σ σ' : St} {e e' : Sl} {S S' : Nat → Addr → Prop} {U U' : Addr → Prop}
theorem RepTs.frs : ∀ {vs : List V} {ds : List D}, RepL K B vs ds → RepTs K B H vs (ds.map T.fr) noS
  | _, _, .nil => .nil fun _ z => z
  | _, _, .cons h hs => .cons (S1 := noS) (S2 := noS) (.fr h fun _ z => z) (RepTs.frs hs) (fun _ z => z.elim) fun a => ⟨fun z => z.elim, fun z => z.elim id id⟩
theorem RepO.t (h : RepO K B H v o U) : RepT K B H v o.t U := by
  cases o with
  | fr d => exact .fr h.1 h.2
  | lst ds =>
    obtain ⟨p, xs, rfl, h1, h2, h3⟩ := h
    exact .lst h1 h2 h3
  | dct ks ds =>
    obtain ⟨p, kv, rfl, h1, h2, h3, h4⟩ := h
    exact .dct h1 h2 h3 h4
  | ins c ns xs =>
    obtain ⟨p, C, dx, fs, rfl, h1, h2, h3, h4, h5⟩ := h
    exact .ins h1 h2 h3 (RepTs.frs h4) (fun z => z) fun a => (h5 a).trans ⟨.inl, fun z => z.elim id fun z => z.elim⟩
  | exn a d x => exact .fr (.opq _) h.2.2
  | tr t => exact h
mutual
theorem RepT.fz : ∀ {v : V} {t : T} {U : Addr → Prop} {B : Hp}, RepT K B H v t U → Ex B H → (∀ a, U a → B a = none) → ∃ B', Rep K B' v t.d ∧ Ex B B' ∧ Ex B' H ∧ ∀ a u, B' a = some u → B a = some u ∨ U a
  | _, .fr d, _, B, .fr h n, hx, _ => ⟨B, by rw [T.d]; exact h, Ex.refl B, hx, fun a u q => .inl q⟩
  | _, .lst ds, _, B, .lst (p := p) (xs := xs) h r e, hx, hb => by
    have hb := hb p ((e p).mpr rfl)
    refine ⟨upd B p (.lst xs), by rw [T.d]; exact .lst upd_same (r.mono (Ex.new hb)), Ex.new hb, fun a u q => ?_, fun a u q => ?_⟩
    · by_cases ha : a = p
      · subst ha; rw [upd_same] at q; cases q; exact h
      · rw [upd_ne ha] at q; exact hx a u q
    · by_cases ha : a = p
      · exact .inr ((e a).mpr ha)
      · rw [upd_ne ha] at q; exact .inl q
  | _, .dct ks ds, _, B, .dct (p := p) (kv := kv) h k r e, hx, hb => by
    have hb := hb p ((e p).mpr rfl)
    refine ⟨upd B p (.dK kv), by rw [T.d]; exact .dct upd_same k (r.mono (Ex.new hb)), Ex.new hb, fun a u q => ?_, fun a u q => ?_⟩
    · by_cases ha : a = p
      · subst ha; rw [upd_same] at q; cases q; exact h
      · rw [upd_ne ha] at q; exact hx a u q
    · by_cases ha : a = p
      · exact .inr ((e a).mpr ha)
      · rw [upd_ne ha] at q; exact .inl q
  | _, .dtt ks ds, _, B, .dtt h k r e, hx, _ => ⟨B, by rw [T.d]; exact .opq _, Ex.refl B, hx, fun a u q => .inl q⟩
  | _, .tup ts, _, B, .tup h r, hx, hb => by
    obtain ⟨B', r', b1, b2, b3⟩ := RepTs.fz r hx hb
    exact ⟨B', by rw [T.d]; exact .tup (SqK.ex b1 h) r', b1, b2, b3⟩
  | _, .ins c ns ts, _, B, .ins (p := p) (dx := dx) (C := C) (fs := fs) h hc k r n e, hx, hb => by
    obtain ⟨B1, r', b1, b2, b3⟩ := RepTs.fz r hx fun a z => hb a ((e a).mpr (.inr z))
    have hp : B1 p = none := by
      cases q : B1 p with
      | none => rfl
      | some u =>
        rcases b3 p u q with z | z
        · rw [hb p ((e p).mpr (.inl rfl))] at z; cases z
        · exact absurd z n
    refine ⟨upd B1 p (.ins C dx fs), by rw [T.d]; exact .ins upd_same hc k (r'.mono (Ex.new hp)), b1.trans (Ex.new hp), fun a u q => ?_, fun a u q => ?_⟩
    · by_cases ha : a = p
      · subst ha; rw [upd_same] at q; cases q; exact h
      · rw [upd_ne ha] at q; exact b2 a u q
    · by_cases ha : a = p
      · exact .inr ((e a).mpr (.inl ha))
      · rw [upd_ne ha] at q; exact (b3 a u q).elim .inl fun z => .inr ((e a).mpr (.inr z))
theorem RepTs.fz : ∀ {vs : List V} {ts : List T} {U : Addr → Prop} {B : Hp}, RepTs K B H vs ts U → Ex B H → (∀ a, U a → B a = none) → ∃ B', RepL K B' vs (T.ds ts) ∧ Ex B B' ∧ Ex B' H ∧ ∀ a u, B' a = some u → B a = some u ∨ U a
  | _, [], _, B, .nil n, hx, _ => ⟨B, by rw [T.ds]; exact .nil, Ex.refl B, hx, fun a u q => .inl q⟩
  | _, t :: ts, _, B, .cons a b d e, hx, hb => by
    obtain ⟨B1, r1, p1, p2, p3⟩ := RepT.fz a hx fun x z => hb x ((e x).mpr (.inl z))
    obtain ⟨B2, r2, q1, q2, q3⟩ := RepTs.fz (RepTs.frame p1 b fun x o _ y => y) p2 fun x z => by
      cases q : B1 x with
      | none => rfl
      | some u =>
        rcases p3 x u q with y | y
        · rw [hb x ((e x).mpr (.inr z))] at y; cases y
        · exact absurd z (d x y)
    refine ⟨B2, by rw [T.ds]; exact .cons (r1.mono q1) r2, p1.trans q1, q2, fun x u q => ?_⟩
    rcases q3 x u q with y | y
    · exact (p3 x u y).imp id fun z => (e x).mpr (.inl z)
    · exact .inr ((e x).mpr (.inr y))
end
/-- what is one's own is frozen, all of it -/
theorem freezeT (h : RepO K B H v o U) (hx : Ex B H) (ho : Own B H U) : ∃ B', Rep K B' v o.dd ∧ Ex B B' ∧ Ex B' H ∧ ∀ a u, B' a = some u → B a = some u ∨ U a := by
  have gen : o.dd = o.d → ∃ B', Rep K B' v o.dd ∧ Ex B B' ∧ Ex B' H ∧ ∀ a u, B' a = some u → B a = some u ∨ U a := fun e => by
    obtain ⟨B', r, hb, hx, hc, _⟩ := Dn.freeze h hx ho
    exact ⟨B', e ▸ r, hb, hx, hc⟩
  cases o with
  | tr t => exact RepT.fz h hx fun a z => (ho a z).1
  | fr d => exact gen rfl
  | lst _ => exact gen rfl
  | dct _ _ => exact gen rfl
  | ins _ _ _ => exact gen rfl
  | exn _ _ _ => exact gen rfl
/-- all slots frozen: only looked at -/
def lkE (e : Sl) : Sl := e.map (Option.map fun o => O.fr o.dd)
theorem Rp.allfz (r : Rp K B H σ e S) : ∃ B', Rp K B' H σ (lkE e) (fun _ => noS) ∧ Ex B' H := by
  have key : ∀ n, ∃ B', Ex B B' ∧ Ex B' H ∧ (∀ a u, B' a = some u → B a = some u ∨ ∃ i, i < n ∧ S i a) ∧ ∀ i o, i < n → e[i]? = some (some o) → ∃ v, σ[i]? = some (some v) ∧ Rep K B' v o.dd := by
    intro n
    induction n with
    | zero => exact ⟨B, Ex.refl B, r.ex, fun a u q => .inl q, fun i o h => absurd h (Nat.not_lt_zero _)⟩
    | succ n ih =>
      obtain ⟨B1, b1, b2, b3, b4⟩ := ih
      cases q : e[n]? with
      | none =>
        refine ⟨B1, b1, b2, fun a u h => (b3 a u h).imp id fun ⟨i, h1, h2⟩ => ⟨i, Nat.lt_succ_of_lt h1, h2⟩, fun i o h ho => ?_⟩
        by_cases hi : i = n
        · subst hi; rw [q] at ho; cases ho
        · exact b4 i o (by omega) ho
      | some u =>
        cases u with
        | none =>
          refine ⟨B1, b1, b2, fun a u h => (b3 a u h).imp id fun ⟨i, h1, h2⟩ => ⟨i, Nat.lt_succ_of_lt h1, h2⟩, fun i o h ho => ?_⟩
          by_cases hi : i = n
          · subst hi; rw [q] at ho; cases ho
          · exact b4 i o (by omega) ho
        | some o =>
          obtain ⟨v, hv, ro⟩ := r.rep n o q
          have hn : ∀ a, S n a → B1 a = none := fun a ha => by
            cases q1 : B1 a with
            | none => rfl
            | some u =>
              rcases b3 a u q1 with z | ⟨i, h1, h2⟩
              · rw [(r.own n a ha).1] at z; cases z
              · have := r.dis i n a h2 ha; omega
          have ro' : RepO K B1 H v o (S n) := by
            cases o with
            | fr d => exact ⟨ro.1.mono b1, ro.2⟩
            | lst ds => obtain ⟨p, xs, e, hp, hr, hs⟩ := ro; exact ⟨p, xs, e, hp, hr.mono b1, hs⟩
            | dct _ _ => obtain ⟨p, kv, e, hp, hk, hr, hs⟩ := ro; exact ⟨p, kv, e, hp, hk, hr.mono b1, hs⟩
            | ins _ _ _ => obtain ⟨p, C, dx, fs, e, hp, hc, hk, hr, hs⟩ := ro; exact ⟨p, C, dx, fs, e, hp, hc, hk, hr.mono b1, hs⟩
            | exn a d x => obtain ⟨e, ⟨fs, hd, hx⟩, hs⟩ := ro; exact ⟨e, ⟨fs, b1 _ _ hd, hx.mono b1⟩, hs⟩
            | tr t => exact RepT.frame b1 ro fun _ _ _ q => q
          obtain ⟨B2, r2, c1, c2, c3⟩ := freezeT ro' b2 fun a ha => ⟨hn a ha, (r.own n a ha).2⟩
          refine ⟨B2, b1.trans c1, c2, fun a u h => ?_, fun i o' h ho => ?_⟩
          · rcases c3 a u h with z | z
            · exact (b3 a u z).imp id fun ⟨i, h1, h2⟩ => ⟨i, Nat.lt_succ_of_lt h1, h2⟩
            · exact .inr ⟨n, Nat.lt_succ_self n, z⟩
          · by_cases hi : i = n
            · subst hi; rw [q] at ho; cases ho; exact ⟨v, hv, r2⟩
            · obtain ⟨w, w1, w2⟩ := b4 i o' (by omega) ho
              exact ⟨w, w1, w2.mono c1⟩
  obtain ⟨B', b1, b2, _, b4⟩ := key e.length
  refine ⟨B', ⟨by unfold lkE; rw [List.length_map]; exact r.len, b2, fun i o ho => ?_, fun _ _ _ z => z.elim, fun _ _ z => z.elim⟩, b2⟩
  unfold lkE at ho
  rw [List.getElem?_map] at ho
  cases q : e[i]? with
  | none => rw [q] at ho; cases ho
  | some u =>
    rw [q] at ho
    cases u with
    | none => cases ho
    | some o' =>
      cases ho
      obtain ⟨v, h1, h2⟩ := b4 i o' (List.getElem?_eq_some_iff.mp q).1 q
      exact ⟨v, h1, h2, fun _ z => z⟩
/-- a value that lies in no heap -/
def immD : D → Bool
  | .bl _ => true
  | .int _ => true
  | .str _ => true
  | .non => true
  | _ => false
/-- a value worked out by a look at the slots: they stay as they are -/
def eLook (f : M O) : M O := fun e => match f (lkE e) with
  | some (.ok (.fr d) _) => if immD d then some (.ok (.fr d) e) else none
  | _ => none
def cLook (c : M Bool) : M Bool := fun e => match c (lkE e) with
  | some (.ok b _) => some (.ok b e)
  | _ => none
theorem rep_imm {d : D} (h : immD d = true) (r : Rep K B v d) : Rep K B' v d := by
  cases r with
  | bl b => exact .bl b
  | int i => exact .int i
  | str x => exact .str x
  | non => exact .non
  | _ => cases h
theorem look_fr (f : Fr B H noS B' H' U) : ∀ {B0 : Hp}, Ex B0 H → Gr B0 H B0 H' := fun hx =>
  have h : Ex H H' := fun a o q => f.k a o q fun z => z
  ⟨Ex.refl _, h, hx.trans h, fun _ _ q => .inl q⟩
end
section
variable {X : Cx} {W : WX} {e a b : Expr} {pos : Pos} {f : M O} {c : M Bool}
theorem d_look (h : PE X e (tE X.K X.mg W f)) : PE X e (tE X.K X.mg W (eLook f)) := pe_imp h fun σ H Q h => by
  obtain ⟨B, e, S, r, h⟩ := h
  obtain ⟨B0, r0, x0⟩ := r.allfz
  unfold eLook at h
  refine ⟨B0, lkE e, _, r0, ?_⟩
  cases q : f (lkE e) with
  | none => rw [q] at h; exact h.elim
  | some ro =>
    rw [q] at h
    cases ro with
    | ex x e1 => exact h.elim
    | ok o e1 =>
      cases o with
      | fr d =>
        dsimp only at h
        by_cases hi : immD d = true
        · rw [if_pos hi] at h
          intro v B' H' S' T vl fr
          have g := look_fr (fr.imp (fun a ⟨_, z⟩ => z) fun _ z => z) r.ex
          exact h v B H' S noS (.fr (r.grow g) (rep_imm hi vl.ro.1)) ((g.fr (tot S)).imp (fun _ z => z) fun a z => z.elim (fun z => z.elim) id)
        · rw [if_neg hi] at h; exact h.elim
      | _ => exact h.elim
theorem c_look (h : PT X e (tT X.K X.mg W c)) : PT X e (tT X.K X.mg W (cLook c)) := pt_imp h fun σ H Q h => by
  obtain ⟨B, e, S, r, h⟩ := h
  obtain ⟨B0, r0, x0⟩ := r.allfz
  unfold cLook at h
  refine ⟨B0, lkE e, _, r0, ?_⟩
  cases q : c (lkE e) with
  | none => rw [q] at h; exact h.elim
  | some ro =>
    rw [q] at h
    cases ro with
    | ex x e1 => exact h.elim
    | ok b e1 =>
      intro B' H' S' rp fr
      have g := look_fr (fr.imp (fun a ⟨_, z⟩ => z) fun _ z => z) r.ex
      exact h B H' S (r.grow g) (g.fr (tot S))
/-! ### a tuple that keeps its items as they are -/
def itemsT : List (M O) → M (List T)
  | [] => M.pure []
  | f :: fs => f.bind fun o => (itemsT fs).bind fun ts => M.pure (o.t :: ts)
def eTupT (fs : List (M O)) : M O := (itemsT fs).bind fun ts => M.pure (.tr (.tup ts))
theorem itemsT_len : ∀ (fs : List (M O)) (e : Sl) (ts : List T) (e' : Sl), itemsT fs e = some (.ok ts e') → ts.length = fs.length
  | [], e, ts, e', h => by cases h; rfl
  | f :: fs, e, ts, e', h => by
    unfold itemsT M.bind at h
    cases q : f e with
    | none => rw [q] at h; cases h
    | some r =>
      cases r with
      | ex x e1 => rw [q] at h; cases h
      | ok o e1 =>
        rw [q] at h
        dsimp only [M.bind] at h
        cases q2 : itemsT fs e1 with
        | none => rw [q2] at h; cases h
        | some r2 =>
          cases r2 with
          | ex x e2 => rw [q2] at h; cases h
          | ok ts2 e3 =>
            rw [q2] at h
            have q3 := itemsT_len fs e1 ts2 e3 q2
            cases h
            rw [List.length_cons, List.length_cons, q3]
theorem itemsT_run {K : PySem.W.Frag} {mg : Str → Option Value} {W : WX} {σ : St} : ∀ (fs : List (M O)) {B H : Hp} {e : Sl} {S : Nat → Addr → Prop} (Q : List V → Hp → Prop), Rp K B H σ e S →
    Post (itemsT fs e) (fun ts e' => ∀ vs B' H' S' U, Rp K B' H' σ e' S' → RepTs K B' H' vs ts U → Own B' H' U → (∀ a, U a → ¬ tot S' a) → Fr B H (tot S) B' H' (fun a => U a ∨ tot S' a) → Q vs H') (fun x e' => ExE K mg W B H S σ x e') → tIs K mg W fs σ H Q
  | [], B, H, e, S, Q, r, h => h [] B H S noS r (.nil fun _ z => z) own_no (fun _ z => z.elim) ((Fr.refl _ _ _).imp (fun _ z => z) fun a z => z.elim (fun z => z.elim) id)
  | f :: fs, B, H, e, S, Q, r, h => by
    unfold itemsT at h
    refine ⟨B, e, S, r, h.bind.imp (fun o e1 h v B1 H1 S1 T vl f1 => ?_) fun _ _ z => z⟩
    refine itemsT_run fs _ vl.rp (h.bind.imp (fun ts e' h vs B' H' S' U r' rl ho hd f4 => ?_) fun x e' z => ?_)
    · have h' : ∀ vs B' H' S' U, Rp K B' H' σ e' S' → RepTs K B' H' vs (o.t :: ts) U → Own B' H' U → (∀ a, U a → ¬ tot S' a) → Fr B H (tot S) B' H' (fun a => U a ∨ tot S' a) → Q vs H' := h
      obtain ⟨k1, k2, k3⟩ := vl.ro.frame vl.own vl.dj f4
      refine h' (v :: vs) B' H' S' (fun a => T a ∨ U a) r' (.cons (RepO.t k1) rl (fun a z w => k3 a z (.inl w)) fun a => Iff.rfl) (fun a z => z.elim (k2 a) (ho a)) (fun a z w => z.elim (fun z => k3 a z (.inr w)) fun z => hd a z w) ?_
      have f5 := (f1.trans (f4.both T)).imp (fun _ z => z) (S1' := fun a => (T a ∨ U a) ∨ tot S' a) fun a z => z.elim (fun z => z.elim .inl fun z => .inr (.inl z)) fun z => .inr (.inr z)
      exact f5
    · intro C d fs B2 H2 S2 h1 h2 h3 h4 hn h6
      exact z C d fs B2 H2 S2 h1 h2 h3 h4 (f1.back hn) ((f1.trans (h6.both T)).imp (fun _ z => z) fun a z => .inr z)
theorem d_tupT {es : List Expr} {fs : List (M O)} {x1} (h : PA X es (tIs X.K X.mg W fs)) (hn : fs.length ≤ 1000 := by decide) : PE X (.Tuple es x1 pos) (tE X.K X.mg W (eTupT fs)) := pe_imp (pe_tup h) fun σ H Q h => by
  obtain ⟨B, e, S, r, h⟩ := h
  have hl : Post (itemsT fs e) (fun ts e' => ts.length = fs.length ∧ ∀ v B' H' S' T, Vl X.K B' H' σ e' S' v (.tr (.tup ts)) T → Fr B H (tot S) B' H' (fun a => T a ∨ tot S' a) → Q v H') (fun x e' => ExE X.K X.mg W B H S σ x e') := by
    have h0 := h.bind
    cases q : itemsT fs e with
    | none => rw [q] at h0; exact h0
    | some ro =>
      rw [q] at h0
      cases ro with
      | ex x e1 => exact h0
      | ok ts e1 => exact ⟨itemsT_len fs e ts e1 q, h0⟩
  refine itemsT_run fs _ r (hl.imp (fun ts e' h vs B' H' S' U r' rl ho hd f => ?_) fun _ _ z => z)
  obtain ⟨hlen, h'⟩ := h
  have hvl : vs.length = ts.length := by
    clear h' hlen hl h
    have : ∀ {vs : List V} {ts : List T} {U : Addr → Prop}, RepTs X.K B' H' vs ts U → vs.length = ts.length := by
      intro vs
      induction vs with
      | nil => intro ts U h; cases h; rfl
      | cons v vs ih => intro ts U h; cases h with | cons a b d e => rw [List.length_cons, List.length_cons, ih b]
    exact this rl
  refine ⟨by rw [hvl, hlen]; exact Nat.le_trans hn (by decide), fun p hp => ?_⟩
  have g := Gr.new r'.ex hp (.tup vs)
  refine h' (.ref p) _ _ S' U ⟨r'.grow g, RepT.tup (.inl upd_same) (RepTs.frame g.b rl fun a o _ q => g.h a o q), ho.grow g, hd⟩ ?_
  exact f.trans (g.fr _)
/-! ### parts of a tree -/
inductive Stp where
  | ix (k : Nat) | fld (c f : Str)
def getT : List Str → List T → Str → Option T
  | n :: ns, t :: ts, f => if n = f then some t else getT ns ts f
  | _, _, _ => none
def T.kid : Stp → T → Option T
  | .ix k, .tup ts => ts[k]?
  | .fld c f, .ins c' ns ts => if c' = c then getT ns ts f else none
  | _, _ => none
def T.sub (t : T) (path : List Stp) : Option T := path.foldl (fun o k => o.bind (T.kid k)) (some t)
theorem T.sub_snoc (t : T) (path : List Stp) (k : Stp) : T.sub t (path ++ [k]) = (T.sub t path).bind (T.kid k) := by unfold T.sub; rw [List.foldl_append]; rfl
/-- the part of slot i at path, as it stands -/
def tPath (K : PySem.W.Frag) (i : Nat) (path : List Stp) : TE := fun σ H Q => ∃ B e S t t', Rp K B H σ e S ∧ e[i]? = some (some (.tr t)) ∧ T.sub t path = some t' ∧ ∀ v U, RepT K B H v t' U → (∀ a, U a → S i a) → Q v H
theorem RepTs.get {K : PySem.W.Frag} {B H : Hp} : ∀ {vs : List V} {ts : List T} {U : Addr → Prop} {k : Nat} {t : T}, RepTs K B H vs ts U → ts[k]? = some t → ∃ v U', vs[k]? = some v ∧ RepT K B H v t U' ∧ ∀ a, U' a → U a
  | _, _, _, _, _, .nil _, h => by simp at h
  | _, _, _, 0, _, .cons a b d e, h => by simp at h; subst h; exact ⟨_, _, rfl, a, fun x z => (e x).mpr (.inl z)⟩
  | _, _, _, k + 1, t, .cons a b d e, h => by
    obtain ⟨v, U', h1, h2, h3⟩ := RepTs.get (k := k) (t := t) b (by simpa using h)
    exact ⟨v, U', by simpa using h1, h2, fun x z => (e x).mpr (.inr (h3 x z))⟩
theorem RepTs.getF {K : PySem.W.Frag} {B H : Hp} {f : Str} {t : T} : ∀ {fs : List (Str × V)} {ns : List Str} {ts : List T} {U : Addr → Prop}, fs.map (·.1) = ns → RepTs K B H (fs.map (·.2)) ts U → getT ns ts f = some t → ∃ v U', fs.lookup f = some v ∧ RepT K B H v t U' ∧ ∀ a, U' a → U a
  | [], [], ts, _, _, h, e => by cases ts <;> cases e
  | p :: fs, [], _, _, h, _, _ => by cases h
  | [], _ :: _, _, _, h, _, _ => by cases h
  | p :: fs, n :: ns, [], _, _, hr, _ => by cases hr
  | (g, x) :: fs, n :: ns, t' :: ts, U, h, hr, e => by
    rw [List.map_cons] at h hr
    injection h with h1 h2
    have h1' : g = n := h1
    unfold getT at e
    cases hr with
    | cons a b d eu =>
      by_cases ej : n = f
      · rw [if_pos ej] at e
        cases e
        exact ⟨x, _, by rw [List.lookup_cons, show (f == g) = true from beq_iff_eq.mpr (h1'.trans ej).symm], a, fun y z => (eu y).mpr (.inl z)⟩
      · rw [if_neg ej] at e
        obtain ⟨v, U', e1, e2, e3⟩ := RepTs.getF h2 b e
        exact ⟨v, U', by rw [List.lookup_cons, show (f == g) = false from beq_eq_false_iff_ne.mpr fun z => ej (h1'.symm.trans z.symm)]; exact e1, e2, fun y z => (eu y).mpr (.inr (e3 y z))⟩
theorem d_path0 {i : Nat} {x : Str} (hv : PE X (.Name x pos) (tVar i)) : PE X (.Name x pos) (tPath X.K i []) := pe_imp hv fun σ H Q h => by
  obtain ⟨B, e, S, t, t', r, ht, hs, q⟩ := h
  obtain ⟨v, hv, ro⟩ := r.rep i _ ht
  have : t = t' := by unfold T.sub at hs; injection hs
  subst this
  exact ⟨v, hv, q v (S i) ro fun _ z => z⟩
theorem d_pathI {i : Nat} {path : List Stp} {k : Nat} {k0 : Nat} {p0 : Pos} (h : PE X a (tPath X.K i path)) (hp : PlainIx (.Constant (.int (k : Int)) k0 p0) := by intro _ _; rfl) : PE X (.Subscript a (.Constant (.int (k : Int)) k0 p0) pos) (tPath X.K i (path ++ [.ix k])) :=
  pe_imp (pe_ix (r := rIx X.K) ix_seq h pe_int hp) fun σ H Q h => by
    obtain ⟨B, e, S, t, t', r, ht, hs, q⟩ := h
    rw [T.sub_snoc] at hs
    obtain ⟨t1, h1, h2⟩ := Option.bind_eq_some_iff.mp hs
    refine ⟨B, e, S, t, t1, r, ht, h1, fun v U hr hu => ?_⟩
    cases t1 with
    | tup ts =>
      cases hr with
      | tup a b =>
        obtain ⟨w, U', w1, w2, w3⟩ := RepTs.get b (show ts[k]? = some t' from h2)
        exact .inr (.inl ⟨_, _, _, w, rfl, rfl, Evl.ex_t r.ex a.sq, by rw [atI_cn]; exact w1, q w U' w2 fun x z => hu x (w3 x z)⟩)
    | _ => cases h2
theorem d_pathF {i : Nat} {path : List Stp} {c fn : Str} {fs : List Str} (F : FldC X.K c fs) (hf : fn ∈ fs) (h : PE X a (tPath X.K i path)) (hb : attributeBase a fn X.env (eval a X.env) = eval a X.env := by rfl) : PE X (.Attribute a fn pos) (tPath X.K i (path ++ [.fld c fn])) :=
  pe_imp (pe_fld h hb) fun σ H Q h => by
    obtain ⟨B, e, S, t, t', r, ht, hs, q⟩ := h
    rw [T.sub_snoc] at hs
    obtain ⟨t1, h1, h2⟩ := Option.bind_eq_some_iff.mp hs
    refine ⟨B, e, S, t, t1, r, ht, h1, fun v U hr hu => ?_⟩
    cases t1 with
    | ins c' ns ts =>
      have h3 : (if c' = c then getT ns ts fn else none) = some t' := h2
      clear h2 hs
      by_cases ec : c' = c
      · rw [if_pos ec] at h3
        subst ec
        cases hr with
        | ins g hc k rr n e =>
          obtain ⟨w, U', w1, w2, w3⟩ := RepTs.getF k rr h3
          obtain ⟨k1, k2⟩ := F.ok _ hc
          exact ⟨_, _, _, _, w, rfl, g, k1, k2 _ hf, w1, q w U' w2 fun x z => hu x ((e x).mpr (.inr (w3 x z)))⟩
      · rw [if_neg ec] at h3; cases h3
    | _ => cases h2
/-- a list in a tree, taken out: the tree is not looked at again -/
def eTake (i : Nat) (path : List Stp) : M O := fun e => match e[i]? with
  | some (some (.tr t)) => match T.sub t path with
    | some (.lst xs) => some (.ok (.lst xs) (e.set i none))
    | _ => none
  | _ => none
theorem d_take {i : Nat} {path : List Stp} (h : PE X a (tPath X.K i path)) : PE X a (tE X.K X.mg W (eTake i path)) := pe_imp h fun σ H Q h => by
  obtain ⟨B, e, S, r, h⟩ := h
  unfold eTake at h
  cases q : e[i]? with
  | none => rw [q] at h; exact h.elim
  | some u =>
    rw [q] at h
    cases u with
    | none => exact h.elim
    | some o =>
      cases o with
      | tr t =>
        dsimp only at h
        cases q2 : T.sub t path with
        | none => rw [q2] at h; exact h.elim
        | some t' =>
          rw [q2] at h
          cases t' with
          | lst xs =>
            refine ⟨B, e, S, t, _, r, q, q2, fun v U hr hu => ?_⟩
            cases hr with
            | lst k1 k2 k3 =>
              rename_i p vs
              refine h (.ref p) B H (fun j => if j = i then noS else S j) U ⟨r.forget i, ⟨p, vs, rfl, k1, k2, k3⟩, fun x z => r.own i x (hu x z), fun x z w => ?_⟩ ((Fr.refl _ _ _).imp (fun _ z => z) fun x z => z.elim (fun z => ⟨i, hu x z⟩) tot_forget)
              obtain ⟨j, w⟩ := w
              by_cases hj : j = i
              · rw [if_pos hj] at w; exact w
              · rw [if_neg hj] at w; exact hj (r.dis j i x w (hu x z))
          | _ => exact h.elim
      | _ => exact h.elim
/-- a frozen part of a tree -/
def eRead (i : Nat) (path : List Stp) : M O := fun e => match e[i]? with
  | some (some (.tr t)) => match T.sub t path with
    | some (.fr d) => some (.ok (.fr d) e)
    | _ => none
  | _ => none
theorem d_read {i : Nat} {path : List Stp} (h : PE X a (tPath X.K i path)) : PE X a (tE X.K X.mg W (eRead i path)) := pe_imp h fun σ H Q h => by
  obtain ⟨B, e, S, r, h⟩ := h
  unfold eRead at h
  cases q : e[i]? with
  | none => rw [q] at h; exact h.elim
  | some u =>
    rw [q] at h
    cases u with
    | none => exact h.elim
    | some o =>
      cases o with
      | tr t =>
        dsimp only at h
        cases q2 : T.sub t path with
        | none => rw [q2] at h; exact h.elim
        | some t' =>
          rw [q2] at h
          cases t' with
          | fr d =>
            refine ⟨B, e, S, t, _, r, q, q2, fun v U hr hu => ?_⟩
            cases hr with
            | fr k1 k2 => exact h v B H S noS (.fr r k1) ((Fr.refl _ _ _).imp (fun _ z => z) fun a z => z.elim (fun z => z.elim) id)
          | _ => exact h.elim
      | _ => exact h.elim
/-- a tree that is kept by others: frozen, all of it -/
def eFzT (f : M O) : M O := f.bind fun o => M.pure (.fr o.dd)
theorem d_fzT (h : PE X e (tE X.K X.mg W f)) : PE X e (tE X.K X.mg W (eFzT f)) := pe_imp h fun σ H Q h => by
  obtain ⟨B, e, S, r, h⟩ := h
  refine ⟨B, e, S, r, h.bind.imp (fun o e' h v B' H' S' T vl f => ?_) fun _ _ z => z⟩
  have h' : ∀ v B' H' S' T, Vl X.K B' H' σ e' S' v (.fr o.dd) T → Fr B H (tot S) B' H' (fun a => T a ∨ tot S' a) → Q v H' := h
  obtain ⟨B2, r2, c1, c2, c3⟩ := freezeT vl.ro vl.rp.ex vl.own
  refine h' v B2 H' S' noS (.fr (vl.rp.bgrow c1 c2 fun i a ha => ?_) r2) ?_
  · cases q : B2 a with
    | none => rfl
    | some u =>
      rcases c3 a u q with z | z
      · rw [(vl.rp.own i a ha).1] at z; cases z
      · exact absurd ⟨i, ha⟩ (vl.dj a z)
  · exact f.trans ⟨c1, fun _ _ q _ => q, fun a z => z.elim (fun z => z.elim) fun z => .inl (.inr z), fun a u q => (c3 a u q).elim .inl fun z => .inr (.inl (.inl z)), fun _ o q => ⟨o, q⟩⟩
end
/-! ### evaluation -/
section
variable {e : Sl} {f : M O} {c : M Bool}
theorem lkE_n : lkE [] = [] := nr rfl
theorem lkE_c (o : Option O) (es : Sl) : lkE (o :: es) = (o.map fun o => O.fr o.dd) :: lkE es := nr rfl
theorem O.dd_fr (d : D) : (O.fr d).dd = d := nr rfl
theorem O.dd_lst (xs : List D) : (O.lst xs).dd = .lst xs := nr rfl
theorem O.dd_dct (ks : List L2.Key) (xs : List D) : (O.dct ks xs).dd = .dct ks xs := nr rfl
theorem O.dd_ins (c : Str) (ns : List Str) (xs : List D) : (O.ins c ns xs).dd = .ins c ns xs := nr rfl
theorem O.dd_tr (t : T) : (O.tr t).dd = t.d := nr rfl
/-- what a look hands back -/
def lookR (e : Sl) : Option (Ro O) → Option (Ro O)
  | some (.ok (.fr d) _) => if immD d then some (.ok (.fr d) e) else none
  | _ => none
theorem eLook_a (f : M O) : eLook f e = lookR e (f (lkE e)) := nr rfl
theorem lookR_b {b : Bool} {e' : Sl} : lookR e (some (.ok (bO b) e')) = some (.ok (bO b) e) := nr rfl
theorem lookR_b' {b : Bool} {e' : Sl} : lookR e (some (.ok (.fr (.bl b)) e')) = some (.ok (.fr (.bl b)) e) := nr rfl
def lookB (e : Sl) : Option (Ro Bool) → Option (Ro Bool)
  | some (.ok b _) => some (.ok b e)
  | _ => none
theorem cLook_a (c : M Bool) : cLook c e = lookB e (c (lkE e)) := nr rfl
theorem lookB_b {b : Bool} {e' : Sl} : lookB e (some (.ok b e')) = some (.ok b e) := nr rfl
/-- a look, by what the looked at gives -/
theorem eLook_v {b : Bool} {e' : Sl} (h : f (lkE e) = some (.ok (bO b) e')) : eLook f e = some (.ok (bO b) e) := by unfold eLook; rw [h]; rfl
theorem cLook_v {b : Bool} {e' : Sl} (h : c (lkE e) = some (.ok b e')) : cLook c e = some (.ok b e) := by unfold cLook; rw [h]
theorem itemsT_n : itemsT [] e = some (.ok [] e) := nr rfl
theorem itemsT_c (f : M O) (fs : List (M O)) : itemsT (f :: fs) e = @thn' _ _ (f e) ⟨fun o e1 => @thn' _ _ (itemsT fs e1) ⟨fun ds e2 => some (.ok (o.t :: ds) e2)⟩⟩ := nr rfl
theorem eTupT_a (fs : List (M O)) : eTupT fs e = @thn' _ _ (itemsT fs e) ⟨fun ts e' => some (.ok (.tr (.tup ts)) e')⟩ := nr rfl
theorem O.t_fr (d : D) : (O.fr d).t = .fr d := nr rfl
theorem O.t_lst (xs : List D) : (O.lst xs).t = .lst xs := nr rfl
theorem O.t_dct (ks : List L2.Key) (xs : List D) : (O.dct ks xs).t = .dct ks xs := nr rfl
theorem O.t_tr (t : T) : (O.tr t).t = t := nr rfl
theorem eFzT_a (f : M O) : eFzT f e = @thn' _ _ (f e) ⟨fun o e' => some (.ok (.fr o.dd) e')⟩ := nr rfl
theorem T.d_fr (d : D) : (T.fr d).d = d := by rw [T.d]
theorem T.d_lst (xs : List D) : (T.lst xs).d = .lst xs := by rw [T.d]
theorem T.d_dct (ks : List L2.Key) (xs : List D) : (T.dct ks xs).d = .dct ks xs := by rw [T.d]
theorem T.d_tup (ts : List T) : (T.tup ts).d = .tup (T.ds ts) := by rw [T.d]
theorem T.d_ins (c : Str) (ns : List Str) (ts : List T) : (T.ins c ns ts).d = .ins c ns (T.ds ts) := by rw [T.d]
theorem T.ds_n : T.ds [] = [] := by rw [T.ds]
theorem T.ds_c (t : T) (ts : List T) : T.ds (t :: ts) = t.d :: T.ds ts := by rw [T.ds]
theorem eTake_a (i : Nat) (path : List Stp) : eTake i path e = (match getO e i with
    | some (.tr t) => (match T.sub t path with
      | some (.lst xs) => some (.ok (.lst xs) (e.set i none))
      | _ => none)
    | _ => none) := by
  unfold eTake getO
  cases e[i]? with
  | none => rfl
  | some u => cases u with
    | none => rfl
    | some o => cases o <;> rfl
theorem eRead_a (i : Nat) (path : List Stp) : eRead i path e = (match getO e i with
    | some (.tr t) => (match T.sub t path with
      | some (.fr d) => some (.ok (.fr d) e)
      | _ => none)
    | _ => none) := by
  unfold eRead getO
  cases e[i]? with
  | none => rfl
  | some u => cases u with
    | none => rfl
    | some o => cases o <;> rfl
theorem T.sub_n (t : T) : T.sub t [] = some t := nr rfl
theorem sub_none : ∀ p : List Stp, p.foldl (fun o k => Option.bind o (T.kid k)) none = none
  | [] => rfl
  | k :: p => by rw [List.foldl_cons]; exact sub_none p
theorem T.sub_c (t : T) (k : Stp) (p : List Stp) : T.sub t (k :: p) = (match T.kid k t with
    | some t' => T.sub t' p
    | none => none) := by
  unfold T.sub
  rw [List.foldl_cons]
  show p.foldl _ (T.kid k t) = _
  cases T.kid k t with
  | none => exact sub_none p
  | some t' => rfl
theorem T.kid_i (k : Nat) (ts : List T) : T.kid (.ix k) (.tup ts) = ts[k]? := nr rfl
theorem T.kid_f (c f : Str) (ns : List Str) (ts : List T) : T.kid (.fld c f) (.ins c ns ts) = getT ns ts f := if_pos rfl
end
end Dn

namespace Dn
open PySem L2
open Evl (Ex)

/-! ## 50. max of a list with a default -/
theorem maxOf_go : ∀ (ys : List Int) (x : Int), PySem.W.maxOf x ys ∈ x :: ys ∧ ∀ z ∈ x :: ys, z ≤ PySem.W.maxOf x ys
  | [], x => ⟨.head _, fun z h => by rw [List.mem_singleton.mp h]; exact Int.le_refl _⟩
  | y :: ys, x => by
    have step : PySem.W.maxOf x (y :: ys) = PySem.W.maxOf (if x < y then y else x) ys := by
      show ys.foldl _ (if PySem.W.DatumOrd.lt x y = true then y else x) = _
      congr 1
      show (if decide (x < y) = true then y else x) = _
      by_cases h : x < y <;> simp [h]
    have ih := maxOf_go ys (if x < y then y else x)
    rw [step]
    refine ⟨?_, fun z hz => ?_⟩
    · rcases List.mem_cons.mp ih.1 with e | e
      · rw [e]
        by_cases h : x < y
        · rw [if_pos h]; simp
        · rw [if_neg h]; simp
      · exact .tail _ (.tail _ e)
    · have h0 := ih.2 (if x < y then y else x) (.head _)
      rcases List.mem_cons.mp hz with e | hz
      · rw [e]
        by_cases h : x < y
        · rw [if_pos h] at h0 ⊢; omega
        · rw [if_neg h] at h0 ⊢; omega
      · rcases List.mem_cons.mp hz with e | hz
        · rw [e]
          by_cases h : x < y
          · rw [if_pos h] at h0 ⊢; omega
          · rw [if_neg h] at h0 ⊢; omega
        · exact ih.2 z (.tail _ hz)
def rMaxDf (K : PySem.W.Frag) : List V → List V → Hp → VK → Prop := fun vs zs H Q => ∃ (a : Addr) (ns : List Int) (d : Int), vs = [V.ref a] ∧ zs = [.int d] ∧ SqL K H a (ns.map V.int) ∧ (ns = [] → Q (.int d) H) ∧ ∀ m, m ∈ ns → (∀ y ∈ ns, y ≤ m) → Q (.int m) H
theorem intsAll {h : Heap} : ∀ {vs : List Value} {ns : List Int}, Vals (ns.map V.int) vs → PySem.W.HoldAll h vs ns
  | _, [], .nil => ⟨_, .nil⟩
  | v :: vs, n :: ns, .cons r rs => by
    obtain ⟨t, rfl⟩ : ∃ t, v = .int n t := r
    obtain ⟨as, ih⟩ := intsAll rs
    exact ⟨_, .cons (.int n t) ih⟩
theorem crk_max {X : Cx} (hc : X.calm = true) (hu : X.A.units + 64 < cLine) : CallRK X (.builtin "max") ["default"] (rMaxDf X.K) := by
  intro pins s σ H xs zs us ws Q I r1 r2 ⟨a, ns, d, e1, e2, hs, q0, q1⟩
  subst e1 e2
  obtain ⟨its, rv, hl, _⟩ := I.list hs
  rw [Vals.ref1 r1]
  cases r2 with
  | cons rz rzs =>
    cases rzs
    obtain ⟨t, rfl⟩ := rz
    refine PySem.W.max_list_datum_default (α := Int) (I.ok.hd hc) hl.isList (intsAll rv) (by show X.A.units + 1 + 0 < cLine; omega) (fun e h' tk hk => ?_) fun y ys i v h' tk e hi hv hk => ?_
    · exact ⟨.int d, H, I.kept hk, ⟨t, rfl⟩, q0 e⟩
    · subst e
      obtain ⟨as, hv⟩ := hv
      obtain ⟨k1, k2⟩ := maxOf_go ys y
      have hv' : PySem.Reads h' v (.int (PySem.W.maxOf y ys)) as := hv
      cases hv' with
      | int _ t' => exact ⟨.int _, H, I.kept hk, ⟨t', rfl⟩, q1 _ k1 k2⟩
def gMaxD (k : Int) : List D → Option O
  | [.lst ds] => match intsD ds with
    | some [] => some (iO k)
    | some ns => (maxL ns).map iO
    | none => none
  | _ => none
theorem n_maxD {K : PySem.W.Frag} (k : Int) : SndN K (fun vs H Q => rMaxDf K vs [.int k] H Q) (gMaxD k) := fun B H vs ds o hx hr hg Q q => by
  unfold gMaxD at hg
  split at hg
  · split at hg
    · rename_i e
      cases hg
      obtain ⟨v, rfl, h⟩ := hr.one
      obtain ⟨p, xs, rfl, h1, h2⟩ := h
      rw [intsD_map e] at h2
      rw [repL_of_ints h2] at h1
      exact ⟨_, [], k, rfl, rfl, Evl.sq_of h1, fun _ => q.fr hx (.int _), fun m hm => (List.not_mem_nil hm).elim⟩
    · rename_i ns _ e
      obtain ⟨m, em, rfl⟩ := Option.map_eq_some_iff.mp hg
      obtain ⟨v, rfl, h⟩ := hr.one
      obtain ⟨p, xs, rfl, h1, h2⟩ := h
      rw [intsD_map e] at h2
      rw [repL_of_ints h2] at h1
      refine ⟨_, ns, k, rfl, rfl, Evl.sq_of h1, fun hn => ?_, fun j k1 k2 => ?_⟩
      · rw [hn] at em; cases em
      · rw [maxL_mem em k1 k2]; exact q.fr hx (.int _)
    · cases hg
  · cases hg
theorem gMaxD_n {k : Int} : gMaxD k [.lst []] = some (iO k) := nr rfl
theorem gMaxD_ints {k : Int} {ns : List Int} {m : Int} (h : maxL ns = some m) : gMaxD k [.lst (ns.map .int)] = some (iO m) := by
  have e : intsD (ns.map D.int) = some ns := by
    clear h
    induction ns with
    | nil => rfl
    | cons n ns ih => rw [List.map_cons]; unfold intsD; rw [ih]; rfl
  unfold gMaxD
  dsimp only
  rw [e]
  cases ns with
  | nil => cases h
  | cons n ns => dsimp only; rw [h]; rfl
section
variable {X : Cx} {W : WX} {e e2 : Expr} {pos p p1 p2 kp cp : Pos} {f g : M O} {q : P} {x : Str} {i : Nat} {k0 : Nat} {k : Int}
theorem d_maxD (hu : X.A.units + 64 < cLine) (hc : X.calm = true) (hg : Gl X "max") (hm : X.mg "max" = none) (ha : PE X e (tP X.K X.mg W q)) (hs : starEach [e] X.env = [(false, eval e X.env)] := by rfl)
    (he : backTo pos (starEach [e] X.env) = (false, eval e X.env) :: backTo pos (starEach [] X.env) := by rfl) (hpl : (backTo pos (starEach [e] X.env)).any (·.1) = false := by rfl)
    (hall : (backToKw pos (keywordEach [⟨some "default", .Constant (.int k) k0 cp, kp⟩] X.env)).all (·.1.isSome) = true := by rfl) (hnone : (backToKw pos (keywordEach [⟨some "default", .Constant (.int k) k0 cp, kp⟩] X.env)).any (·.1.isNone) = false := by rfl)
    (hks : (backToKw pos (keywordEach [⟨some "default", .Constant (.int k) k0 cp, kp⟩] X.env)).filterMap (·.1) = [(PySem.Str.ofString "default" : Str)] := by rfl) :
    PE X (.Call (.Name "max" p) [e] [⟨some "default", .Constant (.int k) k0 cp, kp⟩] pos) (tE X.K X.mg W (ap (gMaxD k) [q])) :=
  pe_imp (pe_callBK (crk_max hc hu) hg hm bt_max (pa_cons ha pa_nil hs) (pk_cons pe_int pk_nil) (by decide) (by decide) he hpl hall hnone hks) fun σ H Q h => apN_run (n_maxD k) _ h
end

/-! ## 51. Dicts whose keys are pairs of whole numbers and texts -/
def keyT : D → Option (List L2.Key)
  | .tup [a, b] => match keyD a, keyD b with
    | some x, some y => some [x, y]
    | _, _ => none
  | _ => none
def getKT : List (List L2.Key) → List D → List L2.Key → Option D
  | k :: ks, d :: ds, j => if k = j then some d else getKT ks ds j
  | _, _, _ => none
def hasKT (ks : List (List L2.Key)) (k : List L2.Key) : Bool := ks.any fun j => decide (j = k)
def putKTs (ks : List (List L2.Key)) (k : List L2.Key) : List (List L2.Key) := if hasKT ks k then ks else ks ++ [k]
def replT : List (List L2.Key) → List D → List L2.Key → D → List D
  | k :: ks, d :: ds, j, x => (if k = j then x else d) :: replT ks ds j x
  | _, _, _, _ => []
def putXTs (ks : List (List L2.Key)) (xs : List D) (k : List L2.Key) (x : D) : List D := if hasKT ks k then replT ks xs k x else xs ++ [x]
section
variable {K : PySem.W.Frag} {B B' H H' : Hp} {v : V} {d : D}
theorem keyD_rep {k : L2.Key} (h : Rep K B v d) (e : keyD d = some k) : v = kV k := by
  cases h with
  | int i => cases e; rfl
  | str z => cases e; rfl
  | _ => cases e
theorem keyT_rep {k : List L2.Key} (h : Rep K B v d) (hx : Ex B H) (e : keyT d = some k) : ∃ b, v = .ref b ∧ H b = some (.tup (k.map kV)) := by
  unfold keyT at e
  split at e
  · rename_i a b
    split at e
    · rename_i x y ex ey
      cases e
      cases h with
      | tup h1 h2 =>
        rename_i p xs
        cases h2 with
        | cons r1 r2 =>
          cases r2 with
          | cons r2 r3 =>
            cases r3
            rw [keyD_rep r1 ex, keyD_rep r2 ey] at h1
            rcases h1 with h1 | ⟨h1, _⟩
            · exact ⟨_, rfl, hx _ _ h1⟩
            · exact absurd h1 (by show ¬ (2 ≤ 1); omega)
    · cases e
  · cases e
theorem getKT_rep {k : List L2.Key} : ∀ {kv : List (List L2.Key × V)} {ks : List (List L2.Key)} {ds : List D}, kv.map (·.1) = ks → RepL K B (kv.map (·.2)) ds → (∀ d, getKT ks ds k = some d → ∃ v, valV kv k = some v ∧ Rep K B v d) ∧ (getKT ks ds k = none → valV kv k = none)
  | [], ks, ds, h, hr => by
    subst h
    cases hr
    exact ⟨fun d e => (by cases e), fun _ => rfl⟩
  | (j, x) :: kv, ks, ds, h, hr => by
    subst h
    cases hr with
    | cons hd hr =>
      rename_i d' ds'
      obtain ⟨i1, i2⟩ := getKT_rep (k := k) (kv := kv) rfl hr
      have e0 : valV ((j, x) :: kv) k = if j = k then some x else valV kv k := by
        unfold valV
        rw [List.find?_cons]
        by_cases ej : j = k
        · rw [decide_eq_true ej, if_pos ej]; rfl
        · rw [decide_eq_false ej, if_neg ej]
      have e1 : getKT (((j, x) :: kv).map (·.1)) (d' :: ds') k = if j = k then some d' else getKT (kv.map (·.1)) ds' k := rfl
      rw [e0, e1]
      by_cases ej : j = k
      · rw [if_pos ej, if_pos ej]
        exact ⟨fun d e => (by cases e; exact ⟨x, rfl, hd⟩), fun e => (by cases e)⟩
      · rw [if_neg ej, if_neg ej]
        exact ⟨i1, i2⟩
theorem hasKT_any (k : List L2.Key) (kv : List (List L2.Key × V)) : (kv.any fun p => decide (p.1 = k)) = hasKT (kv.map (·.1)) k := by
  unfold hasKT
  rw [List.any_map]; rfl
theorem putKT_ks (k : List L2.Key) (v : V) (kv : List (List L2.Key × V)) : (putK kv k v).map (·.1) = putKTs (kv.map (·.1)) k := by
  unfold putK putKTs
  rw [hasKT_any]
  by_cases h : hasKT (kv.map (·.1)) k = true
  · rw [if_pos h, if_pos h, List.map_map]
    refine List.map_congr_left fun p _ => ?_
    show (if p.1 = k then (p.1, v) else p).1 = p.1
    by_cases e : p.1 = k
    · rw [if_pos e]
    · rw [if_neg e]
  · rw [if_neg h, if_neg h, List.map_append]; rfl
theorem replT_rep (k : List L2.Key) {x : V} {dx : D} (hv : Rep K B x dx) : ∀ {kv : List (List L2.Key × V)} {ds : List D}, RepL K B (kv.map (·.2)) ds → RepL K B ((kv.map fun p => if p.1 = k then (p.1, x) else p).map (·.2)) (replT (kv.map (·.1)) ds k dx)
  | [], _, .nil => .nil
  | (j, y) :: kv, _, .cons hd hr => by
    have ih := replT_rep k hv hr
    rw [List.map_cons, List.map_cons, List.map_cons]
    unfold replT
    by_cases e : j = k
    · rw [if_pos e, if_pos e]; exact .cons hv ih
    · rw [if_neg e, if_neg e]; exact .cons hd ih
theorem putKT_xs (k : List L2.Key) {x : V} {dx : D} (hv : Rep K B x dx) {kv : List (List L2.Key × V)} {ds : List D} (hr : RepL K B (kv.map (·.2)) ds) : RepL K B ((putK kv k x).map (·.2)) (putXTs (kv.map (·.1)) ds k dx) := by
  unfold putK putXTs
  rw [hasKT_any]
  by_cases h : hasKT (kv.map (·.1)) k = true
  · rw [if_pos h, if_pos h]; exact replT_rep k hv hr
  · rw [if_neg h, if_neg h, List.map_append]; exact hr.append (.cons hv .nil)
theorem RepO.keep {o : O} {U : Addr → Prop} (h : RepO K B H v o U) (k : ∀ a u, U a → H a = some u → H' a = some u) : RepO K B H' v o U := by
  cases o with
  | fr d => exact h
  | lst ds => obtain ⟨p, xs, e, hp, hr, hs⟩ := h; exact ⟨p, xs, e, k p _ ((hs p).mpr rfl) hp, hr, hs⟩
  | dct _ _ => obtain ⟨p, kv, e, hp, hk, hr, hs⟩ := h; exact ⟨p, kv, e, k p _ ((hs p).mpr rfl) hp, hk, hr, hs⟩
  | ins _ _ _ => obtain ⟨p, C, dx, fs, e, hp, hc, hk, hr, hs⟩ := h; exact ⟨p, C, dx, fs, e, k p _ ((hs p).mpr rfl) hp, hc, hk, hr, hs⟩
  | exn a d x => exact h
  | tr t => exact RepT.frame (Ex.refl B) h k
/-- what slot i owns at l is written over -/
theorem Rp.mutT {σ : St} {e : Sl} {S : Nat → Addr → Prop} (r : Rp K B H σ e S) {i : Nat} {o o' : O} {l : Addr} {u u' : HO} (he : e[i]? = some (some o)) (hS : S i l) (hl : H l = some u) (hn : ∀ v, σ[i]? = some (some v) → RepO K B (L2.upd H l u') v o' (S i)) :
    Rp K B (L2.upd H l u') σ (e.set i (some o')) S ∧ Fr B H (tot S) B (L2.upd H l u') (tot S) := by
  have hb := (r.own i l hS).1
  have hlen : i < e.length := (List.getElem?_eq_some_iff.mp he).1
  refine ⟨⟨by rw [List.length_set]; exact r.len, fun a w ha => ?_, fun j w hw => ?_, r.dis, fun j a ha => ⟨(r.own j a ha).1, ?_⟩⟩, Fr.upd hl ⟨i, hS⟩⟩
  · rw [upd_ne (show a ≠ l from fun z => by subst z; rw [hb] at ha; cases ha)]; exact r.ex a w ha
  · by_cases hj : j = i
    · subst hj
      rw [List.getElem?_set_self hlen] at hw
      cases hw
      obtain ⟨v, hv, _⟩ := r.rep j _ he
      exact ⟨v, hv, hn v hv⟩
    · rw [List.getElem?_set_ne (Ne.symm hj)] at hw
      obtain ⟨v, a1, a2⟩ := r.rep j w hw
      exact ⟨v, a1, a2.keep fun a q z hq => by rw [upd_ne (show a ≠ l from fun y => hj (r.dis j i a z (by rw [y]; exact hS)))]; exact hq⟩
  · by_cases hp : a = l
    · exact ⟨_, by rw [hp]; exact upd_same⟩
    · obtain ⟨_, w, h⟩ := r.own j a ha
      exact ⟨w, by rw [upd_ne hp]; exact h⟩
end
def eDctT : M O := M.pure (.tr (.dtt [] []))
/-- k in x, k not in x: x a dict of one's own -/
def eInT (neg : Bool) (i : Nat) (f : M O) : M O := f.bind fun o e => match e[i]? with
  | some (some (.tr (.dtt ks xs))) => match keyT o.d with
    | some k => some (.ok (bO (if neg then !(getKT ks xs k).isSome else (getKT ks xs k).isSome)) e)
    | none => none
  | _ => none
def eGetT (i : Nat) (f : M O) : M O := fun e => match e[i]? with
  | some (some (.tr (.dtt _ _))) => (f.bind fun o e1 => match e1[i]? with
    | some (some (.tr (.dtt ks xs))) => match keyT o.d with
      | some k => (getKT ks xs k).map fun d => .ok (.fr d) e1
      | none => none
    | _ => none) e
  | _ => none
def eLenT (i : Nat) : M O := fun e => match e[i]? with
  | some (some (.tr (.dtt ks _))) => some (.ok (iO ks.length) e)
  | _ => none
def sPutT (i : Nat) (f g : M O) : M Fl := g.bind fun o e1 => match e1[i]? with
  | some (some (.tr (.dtt _ _))) => (f.bind fun ko e2 => match e2[i]? with
    | some (some (.tr (.dtt ks xs))) => match keyT ko.d with
      | some k => if ks.length < sizeLine then some (.ok .next (e2.set i (some (.tr (.dtt (putKTs ks k) (putXTs ks xs k o.d)))))) else none
      | none => none
    | _ => none) e1
  | _ => none
def rInT2 (neg : Bool) : R2 := fun x y H Q => ∃ a o, y = .ref a ∧ DGet H a x o ∧ Q (.bl (if neg then !o.isSome else o.isSome)) H
section
variable {X : Cx} {W : WX} {e e2 k : Expr} {pos p p1 p2 : Pos} {f g : M O} {x : Str} {i : Nat} {ks : List Nat}
theorem o_inTT (hu : X.A.units + 1 < cLine) : OpR X (compareOp .In) (rInT2 false) := by
  intro pins s σ H x y v u Q I rx ry ⟨a, o, e, h, q⟩
  subst e
  cases ry
  exact d_in hu I h rx fun s' I' => ⟨.bl _, H, I', rfl, q⟩
theorem o_notinTT (hu : X.A.units + 1 < cLine) : OpR X (compareOp .NotIn) (rInT2 true) := by
  intro pins s σ H x y v u Q I rx ry ⟨a, o, e, h, q⟩
  subst e
  cases ry
  exact d_notIn hu I h rx fun s' I' => ⟨.bl _, H, I', rfl, q⟩
theorem d_dctT : PE X (.Dict [] [] pos) (tE X.K X.mg W eDctT) := pe_imp pe_dnewT fun σ H Q h => by
  obtain ⟨B, e, S, r, h⟩ := h
  intro p hp
  have g := Gr.own r.ex hp (.dT [])
  refine (show ∀ v B' H' S' T, Vl X.K B' H' σ e S' v (.tr (.dtt [] [])) T → Fr B H (tot S) B' H' (fun a => T a ∨ tot S' a) → Q v H' from h) (.ref p) B _ S (fun a => a = p) ⟨r.grow g, .dtt upd_same rfl .nil fun a => Iff.rfl, fun a e => ?_, fun a e ⟨j, hj⟩ => ?_⟩ ⟨g.b, fun a o q _ => g.h a o q, fun a z => z.elim (fun z => .inr (by rw [z]; exact hp)) .inl, fun a u q => (g.c a u q).elim .inl fun z => .inr (.inr z), fun a u q => ⟨u, g.h a u q⟩⟩
  · subst e
    refine ⟨?_, _, upd_same⟩
    cases q : B a with
    | none => rfl
    | some u => have := r.ex a u q; rw [hp] at this; cases this
  · subst e
    obtain ⟨_, u, hu⟩ := r.own j a hj
    rw [hp] at hu; cases hu
/-- the dict in slot i, and the key -/
theorem dtt_at {K : PySem.W.Frag} {B H : Hp} {σ : St} {e : Sl} {S : Nat → Addr → Prop} {ks : List (List L2.Key)} {xs : List D} (r : Rp K B H σ e S) (h : e[i]? = some (some (.tr (.dtt ks xs)))) :
    ∃ p kv, σ[i]? = some (some (.ref p)) ∧ S i p ∧ H p = some (.dT kv) ∧ kv.map (·.1) = ks ∧ RepL K B (kv.map (·.2)) xs ∧ ∀ a, S i a ↔ a = p := by
  obtain ⟨v, hv, ro⟩ := r.rep i _ h
  cases (show RepT K B H v (.dtt ks xs) (S i) from ro) with
  | dtt a b c d => exact ⟨_, _, hv, (d _).mpr rfl, a, b, c, d⟩
theorem inT_run {neg : Bool} {σ : St} {H : Hp} {Q : VK} (h : tE X.K X.mg W (eInT neg i f) σ H Q) : tOp (rInT2 neg) (tE X.K X.mg W f) (tVar i) σ H Q := by
  obtain ⟨B, e, S, r, h⟩ := h
  refine ⟨B, e, S, r, h.bind.imp (fun o e1 h v1 B1 H1 S1 T vl f1 => ?_) fun _ _ z => z⟩
  obtain ⟨B2, vl2, f2⟩ := vl.freeze
  have f3 := fz_fr f1 f2
  cases q : e1[i]? with
  | none => rw [q] at h; exact h.elim
  | some u =>
    cases u with
    | none => rw [q] at h; exact h.elim
    | some o1 =>
      rw [q] at h
      cases o1 with
      | tr t =>
        cases t with
        | dtt ks xs =>
          dsimp only at h
          cases hk : keyT o.d with
          | none => rw [hk] at h; exact h.elim
          | some k =>
            rw [hk] at h
            obtain ⟨p, kv, hv, _, hp, ek, hr, _⟩ := dtt_at vl2.rp q
            obtain ⟨b, eb, hb⟩ := keyT_rep vl2.ro.1 vl2.rp.ex hk
            subst eb ek
            obtain ⟨g1, g2⟩ := getKT_rep (k := k) rfl hr
            refine ⟨_, hv, p, _, rfl, DGet.t hp hb, ?_⟩
            have es : (valV kv k).isSome = (getKT (kv.map (·.1)) xs k).isSome := by
              cases hg : getKT (kv.map (·.1)) xs k with
              | none => rw [g2 hg]; rfl
              | some d => obtain ⟨w, hw, _⟩ := g1 d hg; rw [hw]; rfl
            rw [es]
            exact (show ∀ v B' H' S' T, Vl X.K B' H' σ e1 S' v (bO (if neg then !(getKT (kv.map (·.1)) xs k).isSome else (getKT (kv.map (·.1)) xs k).isSome)) T → Fr B H (tot S) B' H' (fun a => T a ∨ tot S' a) → Q v H' from h) _ B2 H1 S1 noS (.fr vl2.rp (.bl _)) (f3.imp (fun _ z => z) fun a z => z.elim (fun z => z.elim) id)
        | _ => exact h.elim
      | _ => exact h.elim
theorem d_inT (hu : X.A.units + 64 < cLine) (ha : PE X e (tE X.K X.mg W f)) (hv : PE X (.Name x p) (tVar i)) (hm : behindInMarks .In (.Name x p) = false := by rfl) : PE X (.Compare e [.In] [.Name x p] pos) (tE X.K X.mg W (eInT false i f)) :=
  pe_imp (pe_cmpR (o_inTT (by omega)) ha hv hm) fun _ _ _ h => inT_run h
theorem d_notinT (hu : X.A.units + 64 < cLine) (ha : PE X e (tE X.K X.mg W f)) (hv : PE X (.Name x p) (tVar i)) (hm : behindInMarks .NotIn (.Name x p) = false := by rfl) : PE X (.Compare e [.NotIn] [.Name x p] pos) (tE X.K X.mg W (eInT true i f)) :=
  pe_imp (pe_cmpR (o_notinTT (by omega)) ha hv hm) fun _ _ _ h => inT_run h
theorem d_getT (hu : X.A.units + 64 < cLine) (hv : PE X (.Name x p) (tVar i)) (ha : PE X e (tE X.K X.mg W f)) (hs : NoSl e := by intro _ _; rfl) : PE X (.Subscript (.Name x p) e pos) (tE X.K X.mg W (eGetT i f)) :=
  pe_imp (pe_dget (by omega) hv ha hs) fun σ H Q h => by
    obtain ⟨B, e, S, r, h⟩ := h
    unfold eGetT at h
    cases q0 : e[i]? with
    | none => rw [q0] at h; exact h.elim
    | some u0 =>
      rw [q0] at h
      cases u0 with
      | none => exact h.elim
      | some o0 =>
        cases o0 with
        | tr t0 =>
          cases t0 with
          | dtt ks0 xs0 =>
            obtain ⟨p0, kv0, hv0, _⟩ := dtt_at r q0
            refine ⟨_, hv0, B, e, S, r, (show Post (M.bind f _ e) _ _ from h).bind.imp (fun o e1 h v1 B1 H1 S1 T vl f1 => ?_) fun _ _ z => z⟩
            obtain ⟨B2, vl2, f2⟩ := vl.freeze
            have f3 := fz_fr f1 f2
            cases q : e1[i]? with
            | none => rw [q] at h; exact h.elim
            | some u =>
              cases u with
              | none => rw [q] at h; exact h.elim
              | some o1 =>
                rw [q] at h
                cases o1 with
                | tr t =>
                  cases t with
                  | dtt ks xs =>
                    dsimp only at h
                    cases hk : keyT o.d with
                    | none => rw [hk] at h; exact h.elim
                    | some k =>
                      rw [hk] at h
                      obtain ⟨p, kv, hv, _, hp, ek, hr, _⟩ := dtt_at vl2.rp q
                      rw [hv0] at hv
                      cases hv
                      obtain ⟨b, eb, hb⟩ := keyT_rep vl2.ro.1 vl2.rp.ex hk
                      subst eb ek
                      obtain ⟨g1, g2⟩ := getKT_rep (k := k) rfl hr
                      cases hg : getKT (kv.map (·.1)) xs k with
                      | none => dsimp only at h; rw [hg] at h; exact h.elim
                      | some d =>
                        dsimp only at h
                        rw [hg] at h
                        obtain ⟨w, hw, hd⟩ := g1 d hg
                        refine ⟨p0, w, rfl, by rw [← hw]; exact DGet.t hp hb, ?_⟩
                        exact (show ∀ v B' H' S' T, Vl X.K B' H' σ e1 S' v (.fr d) T → Fr B H (tot S) B' H' (fun a => T a ∨ tot S' a) → Q v H' from h) _ B2 H1 S1 noS (.fr vl2.rp hd) (f3.imp (fun _ z => z) fun a z => z.elim (fun z => z.elim) id)
                  | _ => exact h.elim
                | _ => exact h.elim
          | _ => exact h.elim
        | _ => exact h.elim
theorem d_lenT {fp : Pos} (hg : Gl X "len") (hm : X.mg "len" = none) (hv : PE X (.Name x p) (tVar i)) (hs : starEach [.Name x p] X.env = [(false, eval (.Name x p) X.env)] := by rfl) (hpl : (backTo pos (starEach [] X.env)).any (·.1) = false := by rfl) :
    PE X (.Call (.Name "len" fp) [.Name x p] [] pos) (tE X.K X.mg W (eLenT i)) :=
  pe_imp (pe_callB call_len_dT hg hm bt_len (pa_cons hv pa_nil hs) (by decide) (by decide) hs hpl) fun σ H Q h => by
    obtain ⟨B, e, S, r, h⟩ := h
    unfold eLenT at h
    cases q : e[i]? with
    | none => rw [q] at h; exact h.elim
    | some u =>
      rw [q] at h
      cases u with
      | none => exact h.elim
      | some o1 =>
        cases o1 with
        | tr t =>
          cases t with
          | dtt ks xs =>
            obtain ⟨p, kv, hv, _, hp, ek, hr, _⟩ := dtt_at r q
            refine ⟨_, hv, p, kv, rfl, hp, ?_⟩
            have el : kv.length = ks.length := by rw [← ek, List.length_map]
            rw [el]
            exact (show ∀ v B' H' S' T, Vl X.K B' H' σ e S' v (iO ks.length) T → Fr B H (tot S) B' H' (fun a => T a ∨ tot S' a) → Q v H' from h) _ B H S noS (.fr r (.int _)) ((Fr.refl _ _ _).imp (fun _ z => z) fun a z => z.elim (fun z => z.elim) id)
          | _ => exact h.elim
        | _ => exact h.elim
theorem s_putT (hu : X.A.units + 64 < cLine) (hv : PE X (.Name x p) (tVar i)) (hk : PE X k (tE X.K X.mg W f)) (he : PE X e (tE X.K X.mg W g)) (hs : swapsWith e (some (.Subscript (.Name x p) k p2)) pos.line X.env = pure false := by rfl) :
    PS X (.Assign [.Subscript (.Name x p) k p2] e pos) (tS X.K X.mg W ks (sPutT i f g)) := ps_imp (ps_dput (by omega) hv hk he hs) fun D σ H h => by
  obtain ⟨B, e, S, r, h⟩ := h
  refine ⟨B, e, S, r, h.bind.imp (fun o e1 h v1 B1 H1 S1 T vl f1 => ?_) fun _ _ z => ExS.toE z⟩
  obtain ⟨B2, vl2, f2⟩ := vl.freeze
  have f3 := fz_fr f1 f2
  cases q : e1[i]? with
  | none => rw [q] at h; exact h.elim
  | some u =>
    rw [q] at h
    cases u with
    | none => exact h.elim
    | some o1 =>
      cases o1 with
      | tr t1 =>
        cases t1 with
        | dtt ks0 xs0 =>
          obtain ⟨p0, kv0, hv0, _⟩ := dtt_at vl2.rp q
          refine ⟨_, hv0, B2, e1, S1, vl2.rp, (show Post (M.bind f _ e1) _ _ from h).bind.imp (fun ko e2 h v2 B3 H3 S3 T3 vl3 f4 => ?_) fun x e2 z => ExS.toE (ExS.step z (Kp.refl _ _) f3)⟩
          obtain ⟨B4, vl4, f5⟩ := vl3.freeze
          have f6 := fz_fr f4 f5
          cases q1 : e2[i]? with
          | none => rw [q1] at h; exact h.elim
          | some u1 =>
            cases u1 with
            | none => rw [q1] at h; exact h.elim
            | some o2 =>
              rw [q1] at h
              cases o2 with
              | tr t2 =>
                cases t2 with
                | dtt ks1 xs1 =>
                  dsimp only at h
                  cases hkk : keyT ko.d with
                  | none => rw [hkk] at h; exact h.elim
                  | some kk =>
                    rw [hkk] at h
                    dsimp only at h
                    by_cases hl : ks1.length < sizeLine
                    · rw [if_pos hl] at h
                      obtain ⟨p, kv, hv, hS, hp, ek, hr, hSi⟩ := dtt_at vl4.rp q1
                      rw [hv0] at hv
                      cases hv
                      obtain ⟨b, eb, hb⟩ := keyT_rep vl4.ro.1 vl4.rp.ex hkk
                      subst eb ek
                      have hl' : kv.length < sizeLine := by rw [List.length_map] at hl; exact hl
                      refine ⟨p0, _, rfl, DPut.t hp hb hl', ?_⟩
                      obtain ⟨r5, f7⟩ := vl4.rp.mutT (o' := .tr (.dtt (putKTs (kv.map (·.1)) kk) (putXTs (kv.map (·.1)) xs1 kk o.d))) q1 hS hp (u' := .dT (putK kv kk v1)) (fun w hw => by
                        rw [hv0] at hw
                        cases hw
                        exact .dtt upd_same (putKT_ks kk v1 kv) (putKT_xs kk (vl2.ro.1.mono f6.b) hr) hSi)
                      exact (show Nd X.K D ks B H S σ .next _ from h) σ B4 _ S3 r5 (Kp.refl _ _) ((f3.trans f6).trans f7)
                    · rw [if_neg hl] at h; exact h.elim
                | _ => exact h.elim
              | _ => exact h.elim
        | _ => exact h.elim
      | _ => exact h.elim
end
end Dn

namespace Dn
open PySem L2 PyProof.Rows
open Evl (Ex)

/-! ## 52. zip of a tuple and a list -/
section
variable {prog : Program} {w : World} {A : Around} {E : Value → Shared → Prop} {s : Shared}
theorem drawT (hh : A.handled = none) (it t : Addr) (ne : t ≠ it) (us : Array Value) : Draws prog w A it [it, t] us.size (fun i v => us[i]? = some v)
    (fun i h => h.IsTupleIter it t i ∧ h.IsTuple t us) := by
  constructor
  · rintro i h ⟨⟨o, ho, _⟩, _⟩
    exact ⟨o, ho⟩
  · rintro i h h' ⟨z1, z2⟩ k
    obtain ⟨o, ho, z2⟩ := z2
    exact ⟨z1.at (k it (.head _)), o, k t (.tail _ (.head _)) o ho, z2⟩
  · rintro i s Q E hi ⟨z1, z2⟩ q
    have e : us[i]? = some us[i] := by simp [hi]
    refine RZ.nextOf_tuple_item z1 z2 e fun h' y1 y2 => q _ h' s.toks e ⟨y1, ?_⟩ y2
    obtain ⟨o, ho, z2⟩ := z2
    exact ⟨o, y2.extBut _ _ ne ho, z2⟩
  · rintro s Q E ⟨z1, z2⟩ q
    exact RZ.nextOf_tuple_end hh z1 z2 (by simp) q
/-- the heap behind zip(t, l): the two iterators, the pair of them, the pair handed out, the zip -/
def zmH (h : Heap) (t l : Addr) : Heap :=
  let n := h.objs.size
  ((((h.push { cls := .type "tuple_iterator", data := .fields #[.ref t, .int 0 0] }).push { cls := .type "list_iterator", data := .fields #[.ref l, .int 0 0] }).push { cls := .type "tuple", data := .seq #[.ref n, .ref (n + 1)] }).push { cls := .type "tuple", data := .seq #[.none, .none] }).push
    { cls := .type "zip", data := .fields #[.none, .bool false, .bool false, .ref (n + 2), .ref (n + 3)] }
theorem zm_new (t l : Addr) (us ws : Array Value) : Meets (Builtin.«zip.__new__» ⟨[.type "zip", .ref t, .ref l], []⟩) (fun _ R s => s.heap.IsTuple t us ∧ s.heap.IsList l ws ∧ R (.ok (.ret (.ref (s.heap.objs.size + 4)))) { s with heap := zmH s.heap t l }) := .of_wp fun prog w A R s z => by
    obtain ⟨hp, g, d, tk, os⟩ := s
    obtain ⟨z1, z2, z3⟩ := z
    have zz := sub_zip
    have y1 : Heap.IsTuple (Shared.heap ⟨hp, g, d, tk, os⟩) t us := z1
    have y2 : Heap.IsList (Shared.heap ⟨hp.push { cls := .type "tuple_iterator", data := .fields #[.ref t, .int 0 0] }, g, d, tk, os⟩) l ws := by
      obtain ⟨o, ho, z2⟩ := z2
      exact ⟨o, Heap.get?_push_of_some _ ho, z2⟩
    wp_walk using wpAny_pyIter_tuple y1, wpAny_pyIter_list y2
    have e1 : ∀ (h : Heap) (o : Obj), (h.push o).objs.size = h.objs.size + 1 := fun h o => Heap.size_push ..
    refine ⟨_, rfl, ?_⟩
    unfold zmH at z3
    simp only [e1] at z3 ⊢
    exact z3
theorem zm_call {t l : Addr} {us ws : Array Value} {Q : Value → Shared → Prop} (z1 : s.heap.IsTuple t us) (z2 : s.heap.IsList l ws)
    (q : ∀ h', IsZip h' (s.heap.objs.size + 4) (s.heap.objs.size + 2) (s.heap.objs.size + 3) .none → IsTupOf2 h' (s.heap.objs.size + 2) (.ref s.heap.objs.size) (.ref (s.heap.objs.size + 1)) → IsTupOf2 h' (s.heap.objs.size + 3) .none .none →
      h'.IsTupleIter s.heap.objs.size t 0 → h'.IsListIter (s.heap.objs.size + 1) l 0 → (∀ c o, s.heap.get? c = some o → h'.get? c = some o) → Q (.ref (s.heap.objs.size + 4)) { s with heap := h' }) : wpAny (model prog w) A (call (.type "zip") [.ref t, .ref l]) Q E s := by
  refine callType_new F.called_zip (by decide) (F.typeCall_zip_2 _ _) (F.newCall_zip_2 _ _) (fun u => F.args_object_init_3 u _ _) F.entry_zip_new (zm_new t l us ws) ⟨z1, z2, ?_⟩
  have e1 : ∀ (h : Heap) (o : Obj), (h.push o).objs.size = h.objs.size + 1 := fun h o => Heap.size_push ..
  have g : ∀ (h : Heap) (o : Obj) (n : Nat), o.isFreed = false → n = h.objs.size → (h.push o).get? n = some o := fun h o n hf e => by rw [e]; exact Heap.get?_push_size _ hf
  have up : ∀ (h : Heap) (o u : Obj) (a : Addr), h.get? a = some u → (h.push o).get? a = some u := fun h o u a e => Heap.get?_push_of_some _ e
  have g4 : (zmH s.heap t l).get? (s.heap.objs.size + 4) = some { cls := .type "zip", data := .fields #[.none, .bool false, .bool false, .ref (s.heap.objs.size + 2), .ref (s.heap.objs.size + 3)] } := g _ _ _ rfl (by simp only [e1])
  have g0 : (zmH s.heap t l).get? s.heap.objs.size = some { cls := .type "tuple_iterator", data := .fields #[.ref t, .int 0 0] } := up _ _ _ _ (up _ _ _ _ (up _ _ _ _ (up _ _ _ _ (g _ _ _ rfl rfl))))
  have g1 : (zmH s.heap t l).get? (s.heap.objs.size + 1) = some { cls := .type "list_iterator", data := .fields #[.ref l, .int 0 0] } := up _ _ _ _ (up _ _ _ _ (up _ _ _ _ (g _ _ _ rfl (by simp only [e1]))))
  refine ⟨⟨_, g4, rfl⟩, q (zmH s.heap t l) g4 ?_ ?_ ⟨_, g0, rfl, rfl⟩ ⟨_, g1, rfl, rfl⟩ fun c o e => ?_⟩
  · exact up _ _ _ _ (up _ _ _ _ (g _ _ _ rfl (by simp only [e1])))
  · exact up _ _ _ _ (g _ _ _ rfl (by simp only [e1]))
  · exact up _ _ _ _ (up _ _ _ _ (up _ _ _ _ (up _ _ _ _ (up _ _ _ _ e))))
end
/-- the tuple at a and the list at b as they stand at each turn, the items in new pairs -/
def ItM (K : PySem.W.Frag) (a b : Addr) : It where
  go i H := ∃ (us ws : List V) (x y : V), SqT K H a us ∧ SqL K H b ws ∧ us[i]? = some x ∧ ws[i]? = some y
  yld i H v H' := ∃ T x y, v = .ref T ∧ H T = none ∧ H' = L2.upd H T (.tup [x, y]) ∧ (∀ us, SqT K H a us → us[i]? = some x) ∧ ∀ ws, SqL K H b ws → ws[i]? = some y
  stop i H := ∃ us ws : List V, SqT K H a us ∧ SqL K H b ws ∧ i ≤ us.length ∧ i ≤ ws.length ∧ (i = us.length ∨ i = ws.length)
section
variable {P : Program} {w : World} {K : PySem.W.Frag} {elts : List Expr} {kk : Nat} {tpos : Pos} {a b : Addr}
theorem in4 {c z q r i1 i2 : Addr} (h : c ∈ [z, q, r, i1, i2]) : c = z ∨ c = q ∨ c = r ∨ c = i1 ∨ c = i2 := by simpa using h
def zmT (a b z TI TO i1 i2 : Addr) (i : Nat) (h : Heap) : Prop := IsZip h z TI TO .none ∧ IsTupOf2 h TI (.ref i1) (.ref i2) ∧ (∃ x y, IsTupOf2 h TO x y) ∧ h.IsTupleIter i1 a i ∧ h.IsListIter i2 b i
theorem turnM {z TI TO i1 i2 : Addr} (D : ZipApart z TI TO i1 i2 a b) : Turn P w K (.Tuple elts kk tpos) (ItM K a b) [z, TI, TO, i1, i2] z (zmT a b z TI TO i1 i2) := by
  have S : ZipSep2 z TI TO i1 i2 [i1, a] [i2, b] := ⟨D.TIz, D.TOz, D.TITO, D.TIi1, .head _, by simp [D.i1z.symm, D.l1z.symm], by simp [D.TOi1, D.l1TO.symm], D.TIi2, .head _, by simp [D.i2z.symm, D.l2z.symm], by simp [D.TOi2, D.l2TO.symm], by simp [D.i12, D.l2i1.symm], by simp [D.i12.symm, D.l1i2.symm]⟩
  constructor
  · exact .head _
  · rintro i h ⟨z1, z2, ⟨x, y, z3⟩, ⟨o1, z4, _, z5⟩, ⟨o2, z6, _, z7⟩⟩ c hc
    rcases in4 hc with e | e | e | e | e
    · exact e ▸ ⟨_, z1, fun v q => nomatch q⟩
    · exact e ▸ ⟨_, z2, fun v q => nomatch q⟩
    · exact e ▸ ⟨_, z3, fun v q => nomatch q⟩
    · exact e ▸ ⟨o1, z4, fun v q => by rw [z5] at q; cases q⟩
    · exact e ▸ ⟨o2, z6, fun v q => by rw [z7] at q; cases q⟩
  · rintro i h h' ⟨z1, z2, ⟨x, y, z3⟩, z4, z5⟩ k
    exact ⟨k z (by simp) _ z1, k TI (by simp) _ z2, ⟨x, y, k TO (by simp) _ z3⟩, z4.at fun o q => k i1 (by simp) o q, z5.at fun o q => k i2 (by simp) o q⟩
  · intro X hP hw hK hc i pins s σ H E I hf ⟨z1, z2, ⟨x0, y0, z3⟩, z4, z5⟩ ⟨us, ws, x, y, k1, k2, k3, k4⟩
    subst hP hw hK
    obtain ⟨v1, r1, t1, _⟩ := I.tuple k1
    obtain ⟨v2, r2, t2, _⟩ := I.list k2
    have len1 := r1.length
    have len2 := r2.length
    have lt1 := (List.getElem?_eq_some_iff.mp k3).1
    have lt2 := (List.getElem?_eq_some_iff.mp k4).1
    have hh : X.A.in1.handled = none := I.ok.hd hc
    refine wpAny_pyNext_zipD2_item S (drawT hh i1 a D.l1i1 v1.toArray) (Draws.list hh i2 b D.l2i2 v2.toArray) z1 z2 z3 ⟨z4, t1⟩ ⟨z5, t2.isList⟩ (by simp; omega) (by simp; omega) fun u1 u2 h' tk e1 e2 y1 y2 y3 y4 y5 hsz hk => ?_
    refine ⟨_, rfl, wpAny_letOwnedTupleGo_zip (s := { s with heap := h', toks := tk }) y1 fun h2 y6 sb => ?_⟩
    have lz : z < s.heap.objs.size := Heap.lt_size z1
    have nw : h2.get? s.heap.objs.size = some { cls := .type "tuple", data := .seq #[u1, u2] } := (sb.2 _ (Nat.ne_of_gt lz)).trans y5
    obtain ⟨w1, e3, q1⟩ := r1.get k3
    obtain ⟨w2, e4, q2⟩ := r2.get k4
    have f1 : w1 = u1 := by have e1' : v1[i]? = some u1 := by simpa using e1
                            rw [e1'] at e3; injection e3 with e3; exact e3.symm
    have f2 : w2 = u2 := by have e2' : v2[i]? = some u2 := by simpa using e2
                            rw [e2'] at e4; injection e4 with e4; exact e4.symm
    subst f1 f2
    have ob : ObjOk X.prog X.w (L2.upd H s.heap.objs.size (.tup [x, y])) h2 s.heap.objs.size (.tup [x, y]) := ⟨by show 2 ≤ sizeLine; decide, [w1, w2], .cons q1 (.cons q2 .nil), ⟨_, nw, rfl, _, rfl⟩⟩
    have kp : ∀ c o, c ∉ [z, TI, TO, i1, i2] → s.heap.get? c = some o → h2.get? c = some o := fun c o hb q => by
      have n : ∀ d, d ∈ [z, TI, TO, i1, i2] → c ≠ d := fun d hd e => hb (e ▸ hd)
      exact (sb.2 c (n z (by simp))).trans (hk c o (n z (by simp)) (n TO (by simp)) (n i1 (by simp)) (n i2 (by simp)) q)
    have I2 := I.turnedNew (t' := tk) kp hf (Nat.le_refl _) ob
    refine ⟨.ref s.heap.objs.size, _, I2, rfl, ⟨_, x, y, rfl, I.hok.fresh (Nat.le_refl _), rfl, fun l hl => by rw [I.tuple_inj hl k1]; exact k3, fun l hl => by rw [I.list_inj hl k2]; exact k4⟩, ⟨y6, ?_, ⟨_, _, (sb.2 _ D.TOz).trans y2⟩, ?_, ?_⟩, fun c hcm => ?_⟩
    · exact (sb.2 _ D.TIz).trans (hk _ _ D.TIz D.TITO D.TIi1 D.TIi2 z2)
    · exact y3.1.at fun o q => (sb.2 _ D.i1z).trans q
    · exact y4.1.at fun o q => (sb.2 _ D.i2z).trans q
    · have lt : c < s.heap.objs.size := by
        rcases in4 hcm with e | e | e | e | e
        · rw [e]; exact lz
        · rw [e]; exact Heap.lt_size z2
        · rw [e]; exact Heap.lt_size z3
        · rw [e]; obtain ⟨_, z4, _⟩ := z4; exact Heap.lt_size z4
        · rw [e]; obtain ⟨_, z5, _⟩ := z5; exact Heap.lt_size z5
      rw [upd_ne (show c ≠ s.heap.objs.size from Nat.ne_of_lt lt)]
      exact (hf c hcm).1
  · intro X hP hw hK hc i pins s σ H E I hf ⟨z1, z2, ⟨x0, y0, z3⟩, z4, z5⟩ ⟨us, ws, k1, k2, l1, l2, l3⟩
    subst hP hw hK
    obtain ⟨v1, r1, t1, _⟩ := I.tuple k1
    obtain ⟨v2, r2, t2, _⟩ := I.list k2
    have hh : X.A.in1.handled = none := I.ok.hd hc
    have len1 := r1.length
    have len2 := r2.length
    exact wpAny_pyNext_zipD2_end S (drawT hh i1 a D.l1i1 v1.toArray) (Draws.list hh i2 b D.l2i2 v2.toArray) z1 z2 z3 ⟨z4, t1⟩ ⟨z5, t2.isList⟩ (by simp; omega) (by simp; omega) (by simp; omega) fun h' tk hk => ⟨rfl, I.turnedL (t' := tk) (fun c o hb q => by
      have n : ∀ d, d ∈ [z, TI, TO, i1, i2] → c ≠ d := fun d hd e => hb (e ▸ hd)
      exact hk c o (n z (by simp)) (n TO (by simp)) (n i1 (by simp)) (n i2 (by simp)) q) hf⟩
  · intro A i s Q E st q
    exact wpAny_pyIter_zip st.1 q
end
def iZipM (K : PySem.W.Frag) (ta : TA) : TI := fun σ H R => ta σ H fun vs H1 => ∃ a b us ws, vs = [.ref a, .ref b] ∧ SqT K H1 a us ∧ SqL K H1 b ws ∧ R (ItM K a b) H1
section
variable {X : Cx} {W : WX} {e e2 : Expr} {ta : TA} {p pos tpos : Pos} {elts : List Expr} {kk : Nat} {f g : M O}
theorem pi_zipM (hg : Gl X "zip") (hm : X.mg "zip" = none) (ha : PA X [e, e2] ta) (hs : starEach [e, e2] X.env = (false, eval e X.env) :: starEach [e2] X.env := by rfl) (hpl : (backTo pos (starEach [e2] X.env)).any (·.1) = false := by rfl) :
    PI X (.Tuple elts kk tpos) (.Call (.Name "zip" p) [e, e2] [] pos) (iZipM X.K ta) := by
  refine ⟨fun pins s σ H R I h => ?_⟩
  refine Call_ (ld_blt I hg hm boot_zip (callWith_type1 (thn (ha.run pos pins s σ H _ I h) fun us s1 ⟨vs, H1, I1, r1, a, b, xs, ys, ex, k1, k2, q⟩ => ?_) hs hpl))
  subst ex
  cases r1 with
  | cons r rr =>
    cases rr with
    | cons r' rr =>
      cases rr
      cases r
      cases r'
      obtain ⟨v1, r1, t1, _⟩ := I1.tuple k1
      obtain ⟨v2, r2, t2, _⟩ := I1.list k2
      obtain ⟨o1, ho1, _⟩ := id t1
      refine zm_call t1 t2.isList fun h' y1 y2 y3 y4 y5 hk => wpAny_pyIter_zip y1 ?_
      have I2 : Inv X pins σ H1 { s1 with heap := h' } := I1.kept (t' := s1.toks) hk
      refine ⟨s1.heap.objs.size + 4, _, _, _, H1, rfl, I2, turnM (PySem.W.ktu_apart s1.heap.objs.size a b (Heap.lt_size ho1) t2.lt), ⟨y1, y2, ⟨_, _, y3⟩, y4, y5⟩, fun c hc => ?_, q⟩
      have le : s1.heap.objs.size ≤ c := by
        rcases in4 hc with e | e | e | e | e <;> rw [e] <;> (first | exact Nat.le_refl _ | exact Nat.le_add_right _ _)
      exact I1.fpOk le (I1.hok.fresh le)
theorem walkM {K : PySem.W.Frag} {a b : Addr} {us ws : List V} {n : Nat} (hn : n = min us.length ws.length) : Walk (ItM K a b) n (fun H => SqT K H a us ∧ SqL K H b ws) (YPair (fun i => us[i]?) (fun i => ws[i]?)) := by
  subst hn
  constructor
  · rintro i H hi ⟨q1, q2⟩
    have l1 : i < us.length := by omega
    have l2 : i < ws.length := by omega
    exact ⟨us, ws, us[i], ws[i], q1, q2, List.getElem?_eq_getElem l1, List.getElem?_eq_getElem l2⟩
  · rintro H ⟨q1, q2⟩
    exact ⟨us, ws, q1, q2, by omega, by omega, by omega⟩
  · rintro i H v H' _ ⟨q1, q2⟩ ⟨T, x, y, e1, e2, e3, e4, e5⟩
    exact ⟨T, x, y, e1, e2, e3, e4 us q1, e5 ws q2⟩
theorem walkD_zipM {K : PySem.W.Frag} {B H : Hp} {a b : Addr} {us ws : List V} {ds es : List D} (h1 : SqT K B a us) (h2 : SqL K B b ws) (r1 : RepL K B us ds) (r2 : RepL K B ws es) : WalkD K (ItM K a b) B (zipD ds es) := by
  refine ⟨_, _, walkM (us := us) (ws := ws) (by rw [zipD_len, r1.length, r2.length]), fun H e => ⟨Evl.ex_t e h1, Evl.ex_l e h2⟩, ?_⟩
  rintro i H x H' B1 hi k1 k2 ⟨T, u, v, e1, hT, e2, hu, hv⟩
  subst e1 e2
  obtain ⟨d, hd, rd⟩ := r1.get' hu
  obtain ⟨d2, hd2, rd2⟩ := r2.get' hv
  have g := Gr.new k2 hT (.tup [u, v])
  exact ⟨_, _, g, zipD_get ds es i d d2 hd hd2, .tup (.inl upd_same) (.cons ((rd.mono k1).mono g.b) (.cons ((rd2.mono k1).mono g.b) .nil))⟩
def sZipM (f g : M O) : M (List D) := (items [f, g]).bind fun ds e => match ds with
  | [.tup xs, .lst ys] => some (.ok (zipD xs ys) e)
  | _ => none
theorem i_zipM {elts : List Expr} {kk : Nat} {tpos : Pos} (hg : Gl X "zip") (hm : X.mg "zip" = none) (ha : PE X e (tE X.K X.mg W f)) (hb : PE X e2 (tE X.K X.mg W g))
    (hs : starEach [e, e2] X.env = (false, eval e X.env) :: starEach [e2] X.env := by rfl) (hs2 : starEach [e2] X.env = (false, eval e2 X.env) :: starEach [] X.env := by rfl) (hpl : (backTo pos (starEach [e2] X.env)).any (·.1) = false := by rfl) :
    PI X (.Tuple elts kk tpos) (.Call (.Name "zip" p) [e, e2] [] pos) (tSrc X.K X.mg W (sZipM f g)) := pi_imp (pi_zipM hg hm (is_c (f := f) ha (is_c (f := g) hb is_n hs2) hs) hs hpl) fun σ H R h => by
  obtain ⟨B, e, S, r, h⟩ := h
  refine items_run [f, g] _ r (h.bind.imp (fun ds e' h2 vs B' H' S' r' rl fr => ?_) fun _ _ z => z)
  cases rl with
  | nil => exact h2.elim
  | cons rv rl =>
    cases rl with
    | nil => cases rv <;> exact h2.elim
    | cons rw rl =>
      cases rl with
      | cons _ _ => cases rv <;> first | exact h2.elim | (cases rw <;> exact h2.elim)
      | nil =>
        cases rv with
        | tup k1 k2 =>
          cases rw with
          | lst j1 j2 => exact ⟨_, _, _, _, rfl, Evl.ex_t r'.ex k1.sq, Evl.sq_of (r'.ex _ _ j1), (show ∀ J B' H' S', Rp X.K B' H' σ e' S' → Fr B H (tot S) B' H' (tot S') → WalkD X.K J B' _ → R J H' from h2) _ B' H' S' r' fr (walkD_zipM (H := H') k1.sq (Evl.sq_of j1) k2 j2)⟩
          | _ => exact h2.elim
        | _ => exact h2.elim
theorem sZipM_e {e : Sl} (f g : M O) : sZipM f g e = @thn' _ _ (f e) ⟨fun o e1 => @thn' _ _ (g e1) ⟨fun o2 e2 => match [o.d, o2.d] with
  | [.tup xs, .lst ys] => some (.ok (zipD xs ys) e2)
  | _ => none⟩⟩ := by
  unfold sZipM M.bind
  rw [items_c]
  cases f e with
  | none => rfl
  | some r => cases r with
    | ex x e1 => rfl
    | ok o e1 =>
      rw [thn_ok, thn_ok]
      dsimp only
      rw [items_c]
      cases g e1 with
      | none => rfl
      | some r => cases r <;> rfl
end
section
variable {X : Cx} {W : WX} {e : Expr} {pos p : Pos} {f : M O} {x : Str} {i : Nat} {op : CmpOp} {neg : Bool}
theorem c_inTg (ho : OpR X (compareOp op) (rInT2 neg)) (ha : PE X e (tE X.K X.mg W f)) (hv : PE X (.Name x p) (tVar i)) (hm : behindInMarks op (.Name x p) = false) : PT X (.Compare e [op] [.Name x p] pos) (tT X.K X.mg W (tst (eInT neg i f))) :=
  pt_imp (pt_cmpR ho ha hv hm) fun σ H Q h => by
    obtain ⟨B, e, S, r, h⟩ := h
    refine inT_run (X := X) (W := W) ⟨B, e, S, r, h.bind.imp (fun o e' h v B' H' S' T vl f => ?_) fun _ _ z => z⟩
    cases o with
    | fr d =>
      cases d with
      | bl b =>
        have hr := vl.ro.1
        cases hr
        exact ⟨b, rfl, h B' H' S' vl.rp (f.imp (fun _ z => z) fun _ z => .inr z)⟩
      | _ => exact h.elim
    | _ => exact h.elim
theorem c_inT (hu : X.A.units + 64 < cLine) (ha : PE X e (tE X.K X.mg W f)) (hv : PE X (.Name x p) (tVar i)) (hm : behindInMarks .In (.Name x p) = false := by rfl) : PT X (.Compare e [.In] [.Name x p] pos) (tT X.K X.mg W (tst (eInT false i f))) := c_inTg (o_inTT (by omega)) ha hv hm
theorem c_notinT (hu : X.A.units + 64 < cLine) (ha : PE X e (tE X.K X.mg W f)) (hv : PE X (.Name x p) (tVar i)) (hm : behindInMarks .NotIn (.Name x p) = false := by rfl) : PT X (.Compare e [.NotIn] [.Name x p] pos) (tT X.K X.mg W (tst (eInT true i f))) := c_inTg (o_notinTT (by omega)) ha hv hm
end
/-! ### evaluation -/
section
variable {e : Sl}
theorem eDctT_a : eDctT e = some (.ok (.tr (.dtt [] [])) e) := nr rfl
theorem eInT_a (neg : Bool) (i : Nat) (f : M O) : eInT neg i f e = @thn' _ _ (f e) ⟨fun o e1 => (match getO e1 i with
    | some (.tr (.dtt ks xs)) => (match keyT o.d with
      | some k => some (.ok (bO (if neg then !(getKT ks xs k).isSome else (getKT ks xs k).isSome)) e1)
      | none => none)
    | _ => none)⟩ := by
  unfold eInT M.bind
  cases f e with
  | none => rfl
  | some r => cases r with
    | ex x e1 => rfl
    | ok o e1 =>
      rw [thn_ok]
      dsimp only
      unfold getO
      cases e1[i]? with
      | none => rfl
      | some u => cases u with
        | none => rfl
        | some o => cases o with
          | tr t => cases t <;> rfl
          | _ => rfl
/-- what is read in a dict of pairs -/
def getTR (e : Sl) (o : O) : Option O → Option (Ro O)
  | some (.tr (.dtt ks xs)) => match keyT o.d with
    | some k => (getKT ks xs k).map fun d => Ro.ok (.fr d) e
    | none => none
  | _ => none
theorem getTR_d {o : O} {ks : List (List L2.Key)} {xs : List D} : getTR e o (some (.tr (.dtt ks xs))) = (match keyT o.d with
    | some k => (getKT ks xs k).map fun d => Ro.ok (.fr d) e
    | none => none) := nr rfl
theorem eGetT_a (i : Nat) (f : M O) : eGetT i f e = (match getO e i with
    | some (.tr (.dtt _ _)) => @thn' _ _ (f e) ⟨fun o e1 => getTR e1 o (getO e1 i)⟩
    | _ => none) := by
  unfold eGetT
  rw [bind_a]
  have k : ∀ (e1 : Sl) (o : O), (match e1[i]? with
    | some (some (.tr (.dtt ks xs))) => (match keyT o.d with
      | some k => (getKT ks xs k).map fun d => (Ro.ok (O.fr d) e1 : Ro O)
      | none => none)
    | _ => none) = getTR e1 o (getO e1 i) := fun e1 o => by
    unfold getO
    cases e1[i]? with
    | none => rfl
    | some u => cases u with
      | none => rfl
      | some o => cases o with
        | tr t => cases t <;> rfl
        | _ => rfl
  have kc := thn_congr (r := f e) (f := fun o e1 => (match e1[i]? with
    | some (some (.tr (.dtt ks xs))) => (match keyT o.d with
      | some k => (getKT ks xs k).map fun d => (Ro.ok (O.fr d) e1 : Ro O)
      | none => none)
    | _ => none)) fun o e1 => k e1 o
  rw [← kc]
  unfold getO
  cases e[i]? with
  | none => rfl
  | some u => cases u with
    | none => rfl
    | some o => cases o with
      | tr t => cases t <;> rfl
      | _ => rfl
theorem eLenT_a (i : Nat) : eLenT i e = (match getO e i with
    | some (.tr (.dtt ks _)) => some (.ok (iO ks.length) e)
    | _ => none) := by
  unfold eLenT getO
  cases e[i]? with
  | none => rfl
  | some u => cases u with
    | none => rfl
    | some o => cases o with
      | tr t => cases t <;> rfl
      | _ => rfl
/-- what is put into a dict of pairs -/
def putTR (i : Nat) (e : Sl) (o ko : O) : Option O → Option (Ro Fl)
  | some (.tr (.dtt ks xs)) => match keyT ko.d with
    | some k => if ks.length < sizeLine then some (.ok .next (e.set i (some (.tr (.dtt (putKTs ks k) (putXTs ks xs k o.d)))))) else none
    | none => none
  | _ => none
theorem putTR_d {i : Nat} {o ko : O} {ks : List (List L2.Key)} {xs : List D} : putTR i e o ko (some (.tr (.dtt ks xs))) = (match keyT ko.d with
    | some k => if ks.length < sizeLine then some (.ok .next (e.set i (some (.tr (.dtt (putKTs ks k) (putXTs ks xs k o.d)))))) else none
    | none => none) := nr rfl
theorem sPutT_a (i : Nat) (f g : M O) : sPutT i f g e = @thn' _ _ (g e) ⟨fun o e1 => (match getO e1 i with
    | some (.tr (.dtt _ _)) => @thn' _ _ (f e1) ⟨fun ko e2 => putTR i e2 o ko (getO e2 i)⟩
    | _ => none)⟩ := by
  unfold sPutT
  rw [bind_a]
  refine thn_congr fun o e1 => ?_
  rw [bind_a]
  have k : ∀ (e2 : Sl) (ko : O), (match e2[i]? with
    | some (some (.tr (.dtt ks xs))) => (match keyT ko.d with
      | some k => if ks.length < sizeLine then some (Ro.ok Fl.next (e2.set i (some (.tr (.dtt (putKTs ks k) (putXTs ks xs k o.d)))))) else none
      | none => none)
    | _ => none) = putTR i e2 o ko (getO e2 i) := fun e2 ko => by
    unfold getO
    cases e2[i]? with
    | none => rfl
    | some u => cases u with
      | none => rfl
      | some o => cases o with
        | tr t => cases t <;> rfl
        | _ => rfl
  have kc := thn_congr (r := f e1) (f := fun ko e2 => (match e2[i]? with
    | some (some (.tr (.dtt ks xs))) => (match keyT ko.d with
      | some k => if ks.length < sizeLine then some (Ro.ok Fl.next (e2.set i (some (.tr (.dtt (putKTs ks k) (putXTs ks xs k o.d)))))) else none
      | none => none)
    | _ => none)) fun ko e2 => k e2 ko
  rw [← kc]
  unfold getO
  cases e1[i]? with
  | none => rfl
  | some u => cases u with
    | none => rfl
    | some o => cases o with
      | tr t => cases t <;> rfl
      | _ => rfl
end
end Dn

namespace Dn
open PySem L2
open Evl (Ex)

/-! ## 53. list.index of data -/
def idxD : List D → D → Option Nat
  | [], _ => none
  | y :: ys, k => if D.eqv y k = true then some 0 else (idxD ys k).map (· + 1)
theorem idxD_spec : ∀ {ys : List D} {k : D} {j : Nat}, idxD ys k = some j → (∃ y, ys[j]? = some y ∧ D.eqv y k = true) ∧ ∀ (m : Nat) (z : D), m < j → ys[m]? = some z → D.eqv z k = false
  | [], _, _, h => by cases h
  | y :: ys, k, j, h => by
    unfold idxD at h
    by_cases e : D.eqv y k = true
    · rw [if_pos e] at h
      cases h
      exact ⟨⟨y, rfl, e⟩, fun m z hm _ => by omega⟩
    · rw [if_neg e] at h
      obtain ⟨i, h1, rfl⟩ := Option.map_eq_some_iff.mp h
      obtain ⟨a, b⟩ := idxD_spec h1
      refine ⟨a, fun m z hm hz => ?_⟩
      cases m with
      | zero => cases hz; exact Bool.eq_false_iff.mpr e
      | succ m => exact b m z (by omega) hz
def gLIndexD : List D → Option O
  | [.lst ds, d] => if shp (.lst ds) && shp d then (idxD ds d).map fun j => iO (j : Nat) else none
  | _ => none
theorem n_lindexD {K : PySem.W.Frag} : SndM K (rIndexD K) gLIndexD := fun B H x vs a ds o hx ha hr hg Q q => by
  unfold gLIndexD at hg
  split at hg
  · rename_i _ ls k e
    injection e with e1 e2
    subst e1 e2
    split at hg
    · rename_i hs
      rw [Bool.and_eq_true] at hs
      obtain ⟨j, hj, rfl⟩ := Option.map_eq_some_iff.mp hg
      obtain ⟨y, rfl, h4⟩ := hr.one
      obtain ⟨⟨z, a1, a2⟩, a3⟩ := idxD_spec hj
      have hl := ha
      obtain ⟨p, xs, rfl, h2, h3⟩ := ha
      refine ⟨p, y, k.py, D.pys ls, j, z.py, rfl, rfl, ?_, h4.dp hx (shp_nx hs.2), ?_, hs.2, ?_, a2, fun m z' hm hz => ?_, q.fr hx (.int _)⟩
      · have := Rd.dp (d := .lst ls) hl hx (shp_nx hs.1)
        rw [D.py] at this
        exact this
      · have := hs.1
        unfold shp at this
        rw [D.py] at this
        exact this
      · rw [D.pys_map, List.getElem?_map, a1]; rfl
      · rw [D.pys_map, List.getElem?_map] at hz
        obtain ⟨w, hw, rfl⟩ := Option.map_eq_some_iff.mp hz
        exact a3 m w hm hw
    · cases hg
  · cases hg
theorem gLIndexD_v {ds : List D} {d : D} {j : Nat} (h1 : shp (.lst ds) = true) (h2 : shp d = true) (h : idxD ds d = some j) : gLIndexD [.lst ds, d] = some (iO (j : Nat)) := by
  show (if shp (.lst ds) && shp d then (idxD ds d).map fun j => iO (j : Nat) else none) = _
  rw [h1, h2, h]; rfl
end Dn

namespace Dn
open PySem L2

/-! ## 54. sorted(list) of whole numbers -/
def srtI (ns : List Int) : List Int := ns.mergeSort fun a b => decide (a ≤ b)
theorem srtI_perm (ns : List Int) : (srtI ns).Perm ns := List.mergeSort_perm _ _
theorem srtI_up (ns : List Int) : (srtI ns).Pairwise (· ≤ ·) := by
  have := List.pairwise_mergeSort (le := fun a b : Int => decide (a ≤ b)) (fun a b c h1 h2 => by simp only [decide_eq_true_eq] at *; omega) (fun a b => by simp only [Bool.or_eq_true, decide_eq_true_eq]; omega) ns
  exact this.imp fun h => by simpa using h
theorem srtI_one {ns ns' : List Int} (hp : ns'.Perm ns) (hs : ns'.Pairwise (· ≤ ·)) : ns' = srtI ns :=
  List.Perm.eq_of_pairwise (fun _ _ _ _ a b => Int.le_antisymm a b) hs (srtI_up ns) (hp.trans (srtI_perm ns).symm)
def gSortI : List D → Option O
  | [.lst ds] => (intsD ds).map fun ns => .lst ((srtI ns).map .int)
  | _ => none
theorem n_sortI {K : PySem.W.Frag} : SndN K (rSortedI K) gSortI := fun B H vs ds o hx hr hg Q q => by
  unfold gSortI at hg
  split at hg
  · obtain ⟨ns, e, rfl⟩ := Option.map_eq_some_iff.mp hg
    obtain ⟨v, rfl, h⟩ := hr.one
    obtain ⟨p, xs, rfl, h1, h2⟩ := h
    rw [intsD_map e] at h2
    rw [repL_of_ints h2] at h1
    exact ⟨_, ns, rfl, Evl.sq_of h1, fun ns' p hp hs hn => by
      rw [srtI_one hp hs]
      exact q.newL hx (repL_ints _) hn⟩
  · cases hg
theorem intsD_ints : ∀ ns : List Int, intsD (ns.map D.int) = some ns
  | [] => rfl
  | n :: ns => by rw [List.map_cons]; unfold intsD; rw [intsD_ints ns]; rfl
theorem gSortI_v {ns : List Int} : gSortI [.lst (ns.map .int)] = some (.lst ((srtI ns).map .int)) := by
  show (intsD (ns.map D.int)).map _ = _
  rw [intsD_ints]; rfl
theorem srtI_self {ns : List Int} (h : ns.Pairwise (· ≤ ·)) : srtI ns = ns := (srtI_one (List.Perm.refl ns) h).symm
end Dn

namespace Dn
open PySem L2
open Evl (Ex)

/-! ## 55. Instances that change: trees of one's own -/
def putTx : List Str → List T → Str → T → List T
  | n :: ns, t :: ts, f, u => if n = f then u :: ts else t :: putTx ns ts f u
  | _, _, _, u => [u]
section
variable {K : PySem.W.Frag} {mg : Str → Option Value} {W : WX} {B B' H H' : Hp} {v : V} {o : O} {σ σ' : St} {e e' : Sl} {S S' : Nat → Addr → Prop} {U : Addr → Prop}
theorem RepTs.put (f : Str) {t : T} (hv : RepT K B H v t U) : ∀ {fs : List (Str × V)} {ns : List Str} {ts : List T} {S1 : Addr → Prop}, fs.map (·.1) = ns → RepTs K B H (fs.map (·.2)) ts S1 → (∀ a, U a → ¬ S1 a) →
    ∃ S2, RepTs K B H ((putF f v fs).map (·.2)) (putTx ns ts f t) S2 ∧ ∀ a, S2 a → S1 a ∨ U a
  | [], [], [], S1, _, h, _ => ⟨U, .cons (S2 := noS) hv (.nil fun _ z => z) (fun _ _ z => z) fun a => ⟨.inl, fun z => z.elim id fun z => z.elim⟩, fun a z => .inr z⟩
  | [], [], _ :: _, _, _, h, _ => by cases h
  | p :: fs, [], _, _, h, _, _ => by cases h
  | [], _ :: _, _, _, h, _, _ => by cases h
  | p :: fs, n :: ns, [], _, _, hr, _ => by cases hr
  | (g, x) :: fs, n :: ns, t' :: ts, S1, h, hr, hd => by
    rw [List.map_cons] at h hr
    injection h with h1 h2
    cases hr with
    | cons a b d e =>
      rename_i A1 A2
      have h1' : g = n := h1
      show ∃ S2, RepTs K B H ((if g = f then (g, v) :: fs else (g, x) :: putF f v fs).map (·.2)) (if n = f then t :: ts else t' :: putTx ns ts f t) S2 ∧ _
      by_cases ej : n = f
      · rw [if_pos ej, if_pos (h1'.trans ej)]
        exact ⟨fun a => U a ∨ A2 a, .cons hv b (fun y z w => hd y z ((e y).mpr (.inr w))) fun _ => Iff.rfl, fun y z => z.elim .inr fun z => .inl ((e y).mpr (.inr z))⟩
      · rw [if_neg ej, if_neg (fun z => ej (h1'.symm.trans z))]
        obtain ⟨S2, r2, k2⟩ := RepTs.put f hv h2 b fun y z w => hd y z ((e y).mpr (.inr w))
        exact ⟨fun a => A1 a ∨ S2 a, .cons a r2 (fun y z w => (k2 y w).elim (d y z) fun w => hd y w ((e y).mpr (.inl z))) fun _ => Iff.rfl, fun y z => z.elim (fun z => .inl ((e y).mpr (.inl z))) fun z => (k2 y z).imp (fun z => (e y).mpr (.inr z)) id⟩
/-- what slot i owns at l is written over, and takes in what T owns -/
theorem Rp.setT (r : Rp K B H σ e S) {T : Addr → Prop} (ho : Own B H T) (hd : ∀ a, T a → ¬ tot S a) {i : Nat} {o o' : O} {l : Addr} {u u' : HO} (he : e[i]? = some (some o)) (hS : S i l) (hl : H l = some u) (hU : ∀ a, U a → S i a ∨ T a)
    (hn : ∀ v, σ[i]? = some (some v) → RepO K B (L2.upd H l u') v o' U) :
    Rp K B (L2.upd H l u') σ (e.set i (some o')) (fun j => if j = i then U else S j) ∧ Fr B H (fun a => T a ∨ tot S a) B (L2.upd H l u') (tot fun j => if j = i then U else S j) := by
  have hb := (r.own i l hS).1
  have hlen : i < e.length := (List.getElem?_eq_some_iff.mp he).1
  have ow : ∀ a, S i a ∨ T a → B a = none ∧ ∃ o, H a = some o := fun a z => z.elim (r.own i a) (ho a)
  refine ⟨⟨by rw [List.length_set]; exact r.len, fun a w ha => ?_, fun j w hw => ?_, fun j k a hj hk => ?_, fun j a ha => ?_⟩, ?_⟩
  · rw [upd_ne (show a ≠ l from fun z => by subst z; rw [hb] at ha; cases ha)]; exact r.ex a w ha
  · by_cases hj : j = i
    · subst hj
      rw [List.getElem?_set_self hlen] at hw
      cases hw
      obtain ⟨v, hv, _⟩ := r.rep j _ he
      refine ⟨v, hv, ?_⟩
      rw [if_pos rfl]
      exact hn v hv
    · rw [List.getElem?_set_ne (Ne.symm hj)] at hw
      obtain ⟨v, a1, a2⟩ := r.rep j w hw
      refine ⟨v, a1, ?_⟩
      rw [if_neg hj]
      exact a2.keep fun a q z hq => by rw [upd_ne (show a ≠ l from fun y => hj (r.dis j i a z (by rw [y]; exact hS)))]; exact hq
  · by_cases ej : j = i
    · by_cases ek : k = i
      · rw [ej, ek]
      · rw [if_pos ej] at hj
        rw [if_neg ek] at hk
        rcases hU a hj with z | z
        · exact absurd (r.dis i k a z hk).symm ek
        · exact absurd ⟨k, hk⟩ (hd a z)
    · rw [if_neg ej] at hj
      by_cases ek : k = i
      · rw [if_pos ek] at hk
        rcases hU a hk with z | z
        · exact absurd (r.dis j i a hj z) ej
        · exact absurd ⟨j, hj⟩ (hd a z)
      · rw [if_neg ek] at hk
        exact r.dis j k a hj hk
  · have key : B a = none ∧ ∃ o, H a = some o := by
      by_cases ej : j = i
      · rw [if_pos ej] at ha; exact ow a (hU a ha)
      · rw [if_neg ej] at ha; exact r.own j a ha
    refine ⟨key.1, ?_⟩
    by_cases hp : a = l
    · exact ⟨_, by rw [hp]; exact upd_same⟩
    · obtain ⟨w, h⟩ := key.2
      exact ⟨w, by rw [upd_ne hp]; exact h⟩
  · refine ⟨Ex.refl B, fun a o ha hn => ?_, fun a ⟨j, hj⟩ => .inl ?_, fun _ _ z => .inl z, fun a o ha => ?_⟩
    · rw [upd_ne (fun z => hn (.inr ⟨i, by rw [z]; exact hS⟩))]; exact ha
    · dsimp only at hj
      by_cases ej : j = i
      · rw [if_pos ej] at hj
        exact (hU a hj).elim (fun z => .inr ⟨i, z⟩) .inl
      · rw [if_neg ej] at hj; exact .inr ⟨j, hj⟩
    · by_cases hp : a = l
      · exact ⟨u', by rw [hp]; exact upd_same⟩
      · exact ⟨o, by rw [upd_ne hp]; exact ha⟩
/-- a dict in a tree's field -/
theorem RepTs.dctF {f : Str} {ks : List L2.Key} {xs : List D} : ∀ {fs : List (Str × V)} {ns : List Str} {ts : List T} {U : Addr → Prop}, fs.map (·.1) = ns → RepTs K B H (fs.map (·.2)) ts U → getT ns ts f = some (.dct ks xs) →
    ∃ q kv, fs.lookup f = some (.ref q) ∧ H q = some (.dK kv) ∧ kv.map (·.1) = ks ∧ RepL K B (kv.map (·.2)) xs ∧ U q ∧
      ∀ kv' ks' xs', kv'.map (·.1) = ks' → RepL K B (kv'.map (·.2)) xs' → RepTs K B (L2.upd H q (.dK kv')) (fs.map (·.2)) (putTx ns ts f (.dct ks' xs')) U
  | [], [], ts, _, _, _, e => by cases ts <;> cases e
  | p :: fs, [], _, _, h, _, _ => by cases h
  | [], _ :: _, _, _, h, _, _ => by cases h
  | p :: fs, n :: ns, [], _, _, hr, _ => by cases hr
  | (g, x) :: fs, n :: ns, t :: ts, U, h, hr, e => by
    rw [List.map_cons] at h hr
    injection h with h1 h2
    cases hr with
    | cons ra rb dj eq =>
      rename_i A1 A2
      have h1' : g = n := h1
      unfold getT at e
      by_cases ej : n = f
      · rw [if_pos ej] at e
        cases e
        cases ra with
        | dct c1 c2 c3 c4 =>
          rename_i q kv
          refine ⟨q, kv, ?_, c1, c2, c3, (eq q).mpr (.inl ((c4 q).mpr rfl)), fun kv' ks' xs' k1 k2 => ?_⟩
          · rw [List.lookup_cons, show (f == g) = true from beq_iff_eq.mpr (h1'.trans ej).symm]
          · unfold putTx
            rw [if_pos ej, List.map_cons]
            refine .cons (.dct upd_same k1 k2 c4) (RepTs.frame (Ex.refl B) rb fun a o z w => ?_) dj eq
            rw [upd_ne (show a ≠ q from fun y => dj a ((c4 a).mpr y) z)]; exact w
      · rw [if_neg ej] at e
        obtain ⟨q, kv, g1, g2, g3, g4, g5, g6⟩ := RepTs.dctF h2 rb e
        refine ⟨q, kv, ?_, g2, g3, g4, (eq q).mpr (.inr g5), fun kv' ks' xs' k1 k2 => ?_⟩
        · rw [List.lookup_cons, show (f == g) = false from beq_eq_false_iff_ne.mpr fun z => ej (h1'.symm.trans z.symm)]; exact g1
        · unfold putTx
          rw [if_neg ej, List.map_cons]
          refine .cons (RepT.frame (Ex.refl B) ra fun a o z w => ?_) (g6 kv' ks' xs' k1 k2) dj eq
          rw [upd_ne (show a ≠ q from fun y => dj a z (by rw [y]; exact g5))]; exact w
/-- the dict in field f of the instance in slot i -/
def fldD (c f : Str) (e : Sl) (i : Nat) : Option (List L2.Key × List D) := match e[i]? with
  | some (some (.tr (.ins c' ns ts))) => if c' = c then (match getT ns ts f with
    | some (.dct ks xs) => some (ks, xs)
    | _ => none) else none
  | _ => none
/-- the same with another dict there -/
def setD (f : Str) (e : Sl) (i : Nat) (ks : List L2.Key) (xs : List D) : Sl := match e[i]? with
  | some (some (.tr (.ins c ns ts))) => e.set i (some (.tr (.ins c ns (putTx ns ts f (.dct ks xs)))))
  | _ => e
theorem fldD_at (r : Rp K B H σ e S) {i : Nat} {c f : Str} {ks : List L2.Key} {xs : List D} (h : fldD c f e i = some (ks, xs)) :
    ∃ p C dx fs q kv, σ[i]? = some (some (.ref p)) ∧ H p = some (.ins C dx fs) ∧ ClsN K c C ∧ fs.lookup f = some (.ref q) ∧ H q = some (.dK kv) ∧ kv.map (·.1) = ks ∧ RepL K B (kv.map (·.2)) xs ∧
      ∀ kv' ks' xs', kv'.map (·.1) = ks' → RepL K B (kv'.map (·.2)) xs' → Rp K B (L2.upd H q (.dK kv')) σ (setD f e i ks' xs') S ∧ Fr B H (tot S) B (L2.upd H q (.dK kv')) (tot S) := by
  unfold fldD at h
  cases he : e[i]? with
  | none => rw [he] at h; cases h
  | some u =>
    rw [he] at h
    cases u with
    | none => cases h
    | some o =>
      cases o with
      | tr t =>
        cases t with
        | ins c' ns ts =>
          dsimp only at h
          by_cases ec : c' = c
          · rw [if_pos ec] at h
            cases hg : getT ns ts f with
            | none => rw [hg] at h; cases h
            | some t1 =>
              rw [hg] at h
              cases t1 with
              | dct ks1 xs1 =>
                cases h
                obtain ⟨v, hv, ro⟩ := r.rep i _ he
                cases (show RepT K B H v (.ins c' ns ts) (S i) from ro) with
                | ins h1 h2 h3 h4 h5 h6 =>
                  rename_i p dx C fs S1
                  obtain ⟨q, kv, g1, g2, g3, g4, g5, g6⟩ := RepTs.dctF h3 h4 hg
                  subst ec
                  refine ⟨p, C, dx, fs, q, kv, hv, h1, h2, g1, g2, g3, g4, fun kv' ks' xs' k1 k2 => ?_⟩
                  unfold setD
                  rw [he]
                  dsimp only
                  refine r.mutT he ((h6 q).mpr (.inr g5)) g2 fun w hw => ?_
                  rw [hv] at hw
                  cases hw
                  exact .ins (by rw [upd_ne (show p ≠ q from fun z => h5 (by rw [z]; exact g5))]; exact h1) h2 h3 (g6 kv' ks' xs' k1 k2) h5 h6
              | _ => cases h
          · rw [if_neg ec] at h; cases h
        | _ => cases h
      | _ => cases h
end
/-- x.f = e, x an instance that changes -/
def sSetFT (c f : Str) (i : Nat) (g : M O) : M Fl := g.bind fun o e => match e[i]? with
  | some (some (.tr (.ins c' ns ts))) => if c' = c ∧ ns.length < 1000 then some (.ok .next (e.set i (some (.tr (.ins c' (putFn ns f) (putTx ns ts f o.t)))))) else none
  | _ => none
def keyS (e : Sl) (j : Nat) : Option L2.Key := match e[j]? with
  | some (some (.fr d)) => keyD d
  | _ => none
theorem keyS_at {K : PySem.W.Frag} {B H : Hp} {σ : St} {e : Sl} {S : Nat → Addr → Prop} (r : Rp K B H σ e S) {j : Nat} {k : L2.Key} (h : keyS e j = some k) : σ[j]? = some (some (kV k)) := by
  unfold keyS at h
  cases he : e[j]? with
  | none => rw [he] at h; cases h
  | some u =>
    rw [he] at h
    cases u with
    | none => cases h
    | some o =>
      cases o with
      | fr d =>
        obtain ⟨v, hv, ro⟩ := r.rep j _ he
        rw [hv, keyD_rep ro.1 h]
      | _ => cases h
/-- x.f[k] = e, k in a slot -/
def sPutF (c f : Str) (i j : Nat) (g : M O) : M Fl := g.bind fun o e => match fldD c f e i with
  | some (ks, xs) => (match keyS e j with
    | some k => if ks.length < sizeLine then some (.ok .next (setD f e i (putKs ks k) (putXs ks xs k o.d))) else none
    | none => none)
  | none => none
/-- x.f.get(k), k in a slot -/
def eGetF (c f : Str) (i j : Nat) : M O := fun e => match fldD c f e i with
  | some (ks, xs) => (match keyS e j with
    | some k => some (.ok (.fr ((getK ks xs k).getD .non)) e)
    | none => none)
  | none => none
def keyO : L2.Key → D
  | .inl i => .int i
  | .inr z => .str z
/-- list(x.f), x.f a dict -/
def eKeysF (c f : Str) (i : Nat) : M O := fun e => match fldD c f e i with
  | some (ks, _) => some (.ok (.lst (ks.map keyO)) e)
  | none => none
section
variable {X : Cx} {W : WX} {e k : Expr} {pos pos' p p1 p2 : Pos} {f g : M O} {ks : List Nat} {i : Nat} {x c fn : Str} {fs : List Str}
theorem s_setFT (F : FldC X.K c fs) (hf : fn ∈ fs) (hv : PE X (.Name x p) (tVar i)) (he : PE X e (tE X.K X.mg W g)) (hs : swapsWith e (some (.Attribute (.Name x p) fn pos')) pos.line X.env = pure false := by rfl) :
    PS X (.Assign [.Attribute (.Name x p) fn pos'] e pos) (tS X.K X.mg W ks (sSetFT c fn i g)) := ps_imp (ps_fld hv he hs) fun D σ H h => by
  obtain ⟨B, e, S, r, h⟩ := h
  refine ⟨B, e, S, r, h.bind.imp (fun o e1 h9 v1 B1 H1 S1 T vl f1 => ?_) fun _ _ z => ExS.toE z⟩
  clear h
  cases q : e1[i]? with
  | none => rw [q] at h9; exact h9.elim
  | some u =>
    rw [q] at h9
    cases u with
    | none => exact h9.elim
    | some o1 =>
      cases o1 with
      | tr t =>
        cases t with
        | ins c' ns ts =>
          dsimp only at h9
          by_cases hc : c' = c ∧ ns.length < 1000
          · rw [if_pos hc] at h9
            obtain ⟨rfl, hl⟩ := hc
            obtain ⟨v, hv, ro⟩ := vl.rp.rep i _ q
            cases (show RepT X.K B1 H1 v (.ins c' ns ts) (S1 i) from ro) with
            | ins k1 k2 k3 k4 k5 k6 =>
              rename_i l dx C fs' S0
              obtain ⟨c1, c2⟩ := F.ok C k2
              obtain ⟨S2, r2, k7⟩ := RepTs.put fn (RepO.t vl.ro) k3 k4 fun a z w => vl.dj a z ⟨i, (k6 a).mpr (.inr w)⟩
              have np : ¬ S2 l := fun z => (k7 l z).elim k5 fun z => vl.dj l z ⟨i, (k6 l).mpr (.inl rfl)⟩
              obtain ⟨r5, f5⟩ := vl.rp.setT (U := fun a => a = l ∨ S2 a) vl.own vl.dj q ((k6 l).mpr (.inl rfl)) k1 (u' := .ins C dx (putF fn v1 fs')) (o' := .tr (.ins c' (putFn ns fn) (putTx ns ts fn o.t)))
                (fun a z => z.elim (fun z => .inl ((k6 a).mpr (.inl z))) fun z => (k7 a z).imp (fun z => (k6 a).mpr (.inr z)) id) fun w hw => by
                  rw [hv] at hw
                  cases hw
                  exact .ins upd_same k2 (by rw [putF_ns, k3]) (RepTs.frame (Ex.refl B1) r2 fun a o z w => by rw [upd_ne (show a ≠ l from fun y => np (by rw [← y]; exact z))]; exact w) np fun _ => Iff.rfl
              exact ⟨_, hv, l, C, dx, fs', rfl, k1, c1, c2 _ hf, by rw [← k3, List.length_map] at hl; exact hl, (show Nd X.K D ks B H S σ .next _ from h9) σ B1 _ _ r5 (Kp.refl _ _) (f1.trans f5)⟩
          · rw [if_neg hc] at h9; exact h9.elim
        | _ => exact h9.elim
      | _ => exact h9.elim
theorem s_putF {y : Str} {p3 : Pos} {j : Nat} (hu : X.A.units + 64 < cLine) (F : FldC X.K c fs) (hf : fn ∈ fs) (hv : PE X (.Name x p) (tVar i)) (hk : PE X (.Name y p3) (tVar j)) (he : PE X e (tE X.K X.mg W g))
    (hb : attributeBase (.Name x p) fn X.env (eval (.Name x p) X.env) = eval (.Name x p) X.env := by rfl) (hs : swapsWith e (some (.Subscript (.Attribute (.Name x p) fn p1) (.Name y p3) p2)) pos.line X.env = pure false := by rfl) :
    PS X (.Assign [.Subscript (.Attribute (.Name x p) fn p1) (.Name y p3) p2] e pos) (tS X.K X.mg W ks (sPutF c fn i j g)) := ps_imp (ps_dput (by omega) (pe_fld hv hb) hk he hs) fun D σ H h => by
  obtain ⟨B, e, S, r, h⟩ := h
  refine ⟨B, e, S, r, h.bind.imp (fun o e1 h v1 B1 H1 S1 T vl f1 => ?_) fun _ _ z => ExS.toE z⟩
  obtain ⟨B2, vl2, f2⟩ := vl.freeze
  have f3 := fz_fr f1 f2
  cases q : fldD c fn e1 i with
  | none => rw [q] at h; exact h.elim
  | some u =>
    obtain ⟨ks1, xs1⟩ := u
    rw [q] at h
    dsimp only at h
    cases q2 : keyS e1 j with
    | none => rw [q2] at h; exact h.elim
    | some k =>
      rw [q2] at h
      dsimp only at h
      by_cases hl : ks1.length < sizeLine
      · rw [if_pos hl] at h
        obtain ⟨p', C, dx, fs', q1, kv, g1, g2, g3, g4, g5, g6, g7, g8⟩ := fldD_at vl2.rp q
        obtain ⟨c1, c2⟩ := F.ok C g3
        have hl' : kv.length < sizeLine := by rw [← g6, List.length_map] at hl; exact hl
        obtain ⟨r5, f5⟩ := g8 (putK kv k v1) (putKs ks1 k) (putXs ks1 xs1 k o.d) (by rw [putK_ks, g6]) (putK_xs k vl2.ro.1 g6 g7)
        exact ⟨_, g1, p', C, dx, fs', _, rfl, g2, c1, c2 _ hf, g4, _, keyS_at vl2.rp q2, q1, _, rfl, DPut.k g5 hl', (show Nd X.K D ks B H S σ .next _ from h) σ B2 _ S1 r5 (Kp.refl _ _) (f3.trans f5)⟩
      · rw [if_neg hl] at h; exact h.elim
theorem d_getF {y : Str} {p3 apos cpos : Pos} {j : Nat} (hu : X.A.units + 64 < cLine) (F : FldC X.K c fs) (hf : fn ∈ fs) (hv : PE X (.Name x p) (tVar i)) (hk : PE X (.Name y p3) (tVar j)) (m : M1 X (.Attribute (.Name x p) fn p1) "get" apos (.Name y p3) cpos)
    (hb : attributeBase (.Name x p) fn X.env (eval (.Name x p) X.env) = eval (.Name x p) X.env := by rfl) :
    PE X (.Call (.Attribute (.Attribute (.Name x p) fn p1) "get" apos) [.Name y p3] [] cpos) (tE X.K X.mg W (eGetF c fn i j)) := pe_imp (pe_dget1 (by omega) (pe_fld hv hb) hk m) fun σ H Q h => by
  obtain ⟨B, e, S, r, h⟩ := h
  unfold eGetF at h
  cases q : fldD c fn e i with
  | none => rw [q] at h; exact h.elim
  | some u =>
    obtain ⟨ks1, xs1⟩ := u
    rw [q] at h
    dsimp only at h
    cases q2 : keyS e j with
    | none => rw [q2] at h; exact h.elim
    | some k =>
      rw [q2] at h
      dsimp only at h
      obtain ⟨p', C, dx, fs', q1, kv, g1, g2, g3, g4, g5, g6, g7, g8⟩ := fldD_at r q
      obtain ⟨c1, c2⟩ := F.ok C g3
      refine ⟨_, g1, p', C, dx, fs', _, rfl, g2, c1, c2 _ hf, g4, q1, rfl, .inl ⟨kv, .of g5⟩, _, keyS_at r q2, _, DGet.k g5, ?_⟩
      have fin : ∀ w, Rep X.K B w ((getK ks1 xs1 k).getD .non) → Q w H := fun w hw =>
        (show ∀ v B' H' S' T, Vl X.K B' H' σ e S' v (.fr ((getK ks1 xs1 k).getD .non)) T → Fr B H (tot S) B' H' (fun a => T a ∨ tot S' a) → Q v H' from h) w B H S noS (.fr r hw) ((Fr.refl _ _ _).imp (fun _ z => z) fun a z => z.elim (fun z => z.elim) id)
      cases e1 : getK ks1 xs1 k with
      | none =>
        rw [e1] at fin
        rw [getK_none g6 g7 e1]
        exact fin _ .non
      | some d =>
        rw [e1] at fin
        obtain ⟨w, e2, e3⟩ := getK_rep g6 g7 e1
        rw [e2]
        exact fin _ e3
theorem keyO_rep {K : PySem.W.Frag} {B : Hp} : ∀ kv : List (L2.Key × V), RepL K B (kv.map fun kv => kV kv.1) ((kv.map (·.1)).map keyO)
  | [] => .nil
  | (.inl i, v) :: kv => .cons (.int i) (keyO_rep kv)
  | (.inr z, v) :: kv => .cons (.str z) (keyO_rep kv)
theorem d_keysF {fp : Pos} (hcalm : X.calm = true) (hg : Gl X "list") (hm : X.mg "list" = none) (F : FldC X.K c fs) (hf : fn ∈ fs) (hv : PE X (.Name x p) (tVar i))
    (hb : attributeBase (.Name x p) fn X.env (eval (.Name x p) X.env) = eval (.Name x p) X.env := by rfl)
    (hs : starEach [.Attribute (.Name x p) fn p1] X.env = [(false, eval (.Attribute (.Name x p) fn p1) X.env)] := by rfl) (hpl : (backTo pos (starEach [] X.env)).any (·.1) = false := by rfl) :
    PE X (.Call (.Name "list" fp) [.Attribute (.Name x p) fn p1] [] pos) (tE X.K X.mg W (eKeysF c fn i)) :=
  pe_imp (pe_callTy (call_listD hcalm) hg hm bt_list (pa_cons (pe_fld hv hb) pa_nil hs) (by decide) (by decide) hs hpl) fun σ H Q h => by
    obtain ⟨B, e, S, r, h⟩ := h
    unfold eKeysF at h
    cases q : fldD c fn e i with
    | none => rw [q] at h; exact h.elim
    | some u =>
      obtain ⟨ks1, xs1⟩ := u
      rw [q] at h
      dsimp only at h
      obtain ⟨p', C, dx, fs', q1, kv, g1, g2, g3, g4, g5, g6, g7, g8⟩ := fldD_at r q
      obtain ⟨c1, c2⟩ := F.ok C g3
      refine ⟨_, g1, p', C, dx, fs', _, rfl, g2, c1, c2 _ hf, g4, q1, kv, rfl, .of g5, fun l hl => ?_⟩
      have hr := keyO_rep (K := X.K) (B := B) kv
      rw [g6] at hr
      have g := Gr.own r.ex hl (.lst (kv.map fun kv => kV kv.1))
      refine (show ∀ v B' H' S' T, Vl X.K B' H' σ e S' v (.lst (ks1.map keyO)) T → Fr B H (tot S) B' H' (fun a => T a ∨ tot S' a) → Q v H' from h) (.ref l) B _ S (fun a => a = l) ⟨r.grow g, ⟨_, _, rfl, upd_same, hr, fun a => Iff.rfl⟩, fun a e => ?_, fun a e ⟨j, hj⟩ => ?_⟩ ⟨g.b, fun a o q _ => g.h a o q, fun a z => z.elim (fun z => .inr (by rw [z]; exact hl)) .inl, fun a u q => (g.c a u q).elim .inl fun z => .inr (.inr z), fun a u q => ⟨u, g.h a u q⟩⟩
      · subst e
        refine ⟨?_, _, upd_same⟩
        cases q : B a with
        | none => rfl
        | some u => have := r.ex a u q; rw [hl] at this; cases this
      · subst e
        obtain ⟨_, u, hu⟩ := r.own j a hj
        rw [hl] at hu; cases hu
end
end Dn

namespace Dn
open PySem L2
open Evl (Ex)

/-! ## 56. Making instances that change, calling their methods -/
def mkInsT (c : Str) (F : Fn) : Fn := fun os => match F (.tr (.ins c [] []) :: os) with
  | some (.ok (.fr .non) (.tr t :: os')) => some (.ok (.tr t) os')
  | some (.ex x (_ :: os')) => some (.ex x os')
  | _ => none
theorem spD_makeT {K : PySem.W.Frag} {mg : Str → Option Value} {n : Nat} {c : Str} {F : Fn} {C : Addr} {vs : List V} {H : Hp} {Q : VK} {E : XK} (hC : ClsN K c C) (h : spD K mg n (mkInsT c F) vs H Q E) :
    ∀ x dx, H x = none → H dx = none → dx ≠ x → spD K mg (n + 1) F (.ref x :: vs) (L2.upd (L2.upd H dx (.own x)) x (.ins C dx [])) (fun v H2 => v = .non ∧ Q (.ref x) H2) E := by
  intro x dx hx hdx hne
  obtain ⟨hl, B, os, S, r, h⟩ := h
  have g1 := Gr.own r.ex hdx (.own x)
  have hx1 : (L2.upd H dx (.own x)) x = none := by rw [upd_ne (Ne.symm hne)]; exact hx
  have g2 := Gr.own (r.grow g1).ex hx1 (.ins C dx [])
  have r2 := (r.grow g1).grow g2
  have gg := g1.trans g2
  have hnS : ∀ i a, S i a → a ≠ x := fun i a hi z => by
    subst z
    obtain ⟨_, u, hu⟩ := r.own i a hi
    rw [hx] at hu; cases hu
  have hBx : B x = none := by
    cases q : B x with
    | none => rfl
    | some u => have := r.ex x u q; rw [hx] at this; cases this
  have r3 : Rp K B (L2.upd (L2.upd H dx (.own x)) x (.ins C dx [])) ((V.ref x :: vs).map some) ((O.tr (.ins c [] []) :: os).map some) (fun i a => match i with
      | 0 => a = x
      | i + 1 => S i a) := by
    refine ⟨?_, r2.ex, fun i o ho => ?_, fun i j a h1 h2 => ?_, fun i a h1 => ?_⟩
    · have := r.len
      rw [List.length_map, List.length_map] at this
      rw [List.length_map, List.length_map, List.length_cons, List.length_cons, this]
    · cases i with
      | zero =>
        have ho' : some (some (O.tr (.ins c [] []))) = some (some o) := ho
        cases ho'
        exact ⟨.ref x, rfl, .ins (fs := []) (S1 := noS) upd_same hC rfl (.nil fun _ z => z) (fun z => z) fun a => ⟨.inl, fun z => z.elim id fun z => z.elim⟩⟩
      | succ i => exact r2.rep i o ho
    · cases i with
      | zero =>
        cases j with
        | zero => rfl
        | succ j => exact absurd h1 (hnS j a h2)
      | succ i =>
        cases j with
        | zero => exact absurd h2 (hnS i a h1)
        | succ j => rw [r.dis i j a h1 h2]
    · cases i with
      | zero =>
        have h1' : a = x := h1
        subst h1'
        exact ⟨hBx, _, upd_same⟩
      | succ i => exact r2.own i a h1
  refine ⟨by rw [List.length_cons, hl], B, _, _, r3, ?_⟩
  have fr0 : Fr B H (tot S) B (L2.upd (L2.upd H dx (.own x)) x (.ins C dx [])) (tot fun i a => match i with
      | 0 => a = x
      | i + 1 => S i a) := by
    refine ⟨gg.b, fun a o q _ => gg.h a o q, fun a ⟨i, z⟩ => ?_, fun a o q => (gg.c a o q).elim .inl fun z => .inr (.inr z), fun a o q => ⟨o, gg.h a o q⟩⟩
    cases i with
    | zero => exact .inr (by have z' : a = x := z; rw [z']; exact hx)
    | succ i => exact .inl ⟨i, z⟩
  unfold mkInsT at h
  cases q : F (O.tr (.ins c [] []) :: os) with
  | none => rw [q] at h; exact h.elim
  | some rf =>
    rw [q] at h
    cases rf with
    | ex y os1 =>
      cases os1 with
      | nil => exact h.elim
      | cons o1 os' =>
        intro C' d fs B' H' S' lo hC' r' hd hf hdn f'
        have h' : ∀ (C d : Addr) (fs : List (Str × V)) (B' H' : Hp) (S' : Nat → Addr → Prop), os'.length = vs.length → mg y.cls = some (.ref C) → Rp K B' H' (vs.map some) (os'.map some) S' → H' d = some (.xd fs) → XF K B' fs y.fs → H d = none → Fr B H (tot S) B' H' (tot S') → E (.ref C) (some d) H' := h
        refine h' C' d fs B' H' (fun i => S' (i + 1)) (by rw [List.length_cons, List.length_cons] at lo; omega) hC' ⟨by have := r'.len; simpa using this, r'.ex, fun i o ho => r'.rep (i + 1) o ho, fun i j a h1 h2 => by have := r'.dis (i + 1) (j + 1) a h1 h2; omega, fun i a h1 => r'.own (i + 1) a h1⟩ hd hf (gg.fr (tot S) |>.back hdn) ?_
        exact (fr0.trans f').imp (fun _ z => z) fun a ⟨i, z⟩ => ⟨i + 1, z⟩
    | ok o1 os1 =>
      match o1, os1, h with
      | .fr .non, .tr t :: os', h =>
        intro v B' H' S' T lo vl f'
        have h' : ∀ v B' H' S' T, os'.length = vs.length → Vl K B' H' (vs.map some) (os'.map some) S' v (.tr t) T → Fr B H (tot S) B' H' (fun a => T a ∨ tot S' a) → Q v H' := h
        have hv := vl.ro.1
        cases hv
        refine ⟨rfl, ?_⟩
        obtain ⟨w, hw, ro⟩ := vl.rp.rep 0 (.tr t) rfl
        have hw' : some (some (V.ref x)) = some (some w) := hw
        cases hw'
        refine h' (.ref x) B' H' (fun i => S' (i + 1)) (S' 0) (by rw [List.length_cons, List.length_cons] at lo; omega) ⟨⟨by have := vl.rp.len; simpa using this, vl.rp.ex, fun i o ho => vl.rp.rep (i + 1) o ho, fun i j a h1 h2 => by have := vl.rp.dis (i + 1) (j + 1) a h1 h2; omega, fun i a h1 => vl.rp.own (i + 1) a h1⟩, ro, vl.rp.own 0, fun a h1 ⟨i, h2⟩ => by have := vl.rp.dis 0 (i + 1) a h1 h2; omega⟩ ?_
        refine (fr0.trans (f'.imp (fun _ z => z) fun a z => .inr z)).imp (fun _ z => z) fun a z => ?_
        rcases z with z | ⟨i, z⟩
        · exact ⟨0, z⟩
        · exact ⟨i + 1, z⟩
section
variable {X : Cx} {W : WX} {x c m : Str} {p pos apos : Pos} {e o : Expr} {es : List Expr} {k j n i : Nat} {F : Fn} {ps : List P}
theorem d_makeT (C : ClM X.prog X.w X.K X.mg X.base k x n F) (hr : Room j X.A) (tk : L2N.Takes X W) (ha : PA X (e :: es) (tPs X.K X.mg W ps)) (hk : k + 1 ≤ j := by decide) (hg : Gl X x := by rfl) (hn : n = ps.length := by rfl) (nd : (bs ps).Nodup := by decide)
    (hdb : (x == ("__debug__" : Str)) = false := by decide) (he : starEach (e :: es) X.env = (false, eval e X.env) :: starEach es X.env := by rfl) (hpl : (backTo pos (starEach es X.env)).any (·.1) = false := by rfl) :
    PE X (.Call (.Name x p) (e :: es) [] pos) (tE X.K X.mg W (eCall (mkInsT x F) ps [])) := by
  obtain ⟨C0, f, fd, pn, h0, h1, h2, h3, h4, h5⟩ := C.ex
  refine ⟨fun pins s σ H Q I h => ?_⟩
  have hc := call_core (X := X) (W := W) (n := n) (dvs := []) (dv := []) (F := mkInsT x F) rfl (by rw [hn]; rfl) nd (fun _ => .nil) h
  refine wpAny_Call_Name_kw (ld_glob I hg h3 ?_ hdb)
  refine PySem.W.callWith_K (h₀ := X.base) I.ok.mod.kin h2.kp (thn (ha.run pos pins s σ H _ I hc) fun us s1 ⟨vs, H1, I1, r, q⟩ => ⟨I1.kIn, ?_⟩) he hpl
  have q1 : spD X.K X.mg n (mkInsT x F) (vs ++ []) H1 Q (WE W σ) := q
  rw [List.append_nil] at q1
  have q' := spD_makeT h4 q1
  refine run_makeSD (E := WE W σ) h2 h1 (hr.mono hk) h5 (L2N.passAt tk σ) I1 r ?_
  rw [h0]
  exact q'
/-- a method of a class of the module -/
structure MthC (P : Program) (w : World) (K : PySem.W.Frag) (mg : Str → Option Value) (base : Heap) (k : Nat) (c m : Str) (n : Nat) (F : Fn) : Prop where
  ex : ∃ (C f : Addr) (fd : FuncData) (ps : List Str), ps.length = n ∧ ClsN K c C ∧ Cls K C ∧ Meth K C m f ∧ FnOk P w K mg base (L2N.CX P w) k f fd ps (spD K mg ps.length F) ∧ Binds K fd ps []
/-- x.m(..), x an instance that changes -/
def eMth (c m : Str) (i : Nat) (F : Fn) (ps : List P) : M O := fun e => match e[i]? with
  | some (some (.tr (.ins c' ns _))) => if c' = c ∧ m ∉ ns then eCall F (.b i :: ps) [] e else none
  | _ => none
theorem lookup_no {m : Str} : ∀ {fs : List (Str × V)}, m ∉ fs.map (·.1) → fs.lookup m = none
  | [], _ => rfl
  | (g, v) :: fs, h => by
    rw [List.map_cons, List.mem_cons, not_or] at h
    rw [List.lookup_cons, show (m == g) = false from beq_eq_false_iff_ne.mpr h.1]
    exact lookup_no h.2
theorem tPs_mono {K : PySem.W.Frag} {mg : Str → Option Value} {W : WX} : ∀ (ps : List P) (σ : St) (H : Hp) (Q Q' : List V → Hp → Prop), (∀ vs H, Q vs H → Q' vs H) → tPs K mg W ps σ H Q → tPs K mg W ps σ H Q'
  | [], _, _, _, _, hq, t => hq _ _ t
  | p :: ps, σ, H, _, _, hq, t => tP_mono p σ H _ _ (fun x H1 t => tPs_mono ps σ H1 _ _ (fun xs H2 => hq (x :: xs) H2) t) t
theorem mth_core {C : Addr} {K : PySem.W.Frag} {σ : St} {H : Hp} {Q : VK} (hC : ClsN X.K c C) (hn : n = ps.length + 1) (nd : (bs (P.b i :: ps)).Nodup) (h : tE X.K X.mg W (eMth c m i F ps) σ H Q) :
    ∃ a dx fs, σ[i]? = some (some (.ref a)) ∧ H a = some (.ins C dx fs) ∧ fs.lookup m = none ∧ tPs X.K X.mg W ps σ H fun vs H1 => spD X.K X.mg n F (.ref a :: vs) H1 Q (WE W σ) := by
  obtain ⟨B, e, S, r, h⟩ := h
  unfold eMth at h
  cases q : e[i]? with
  | none => rw [q] at h; exact h.elim
  | some u =>
    rw [q] at h
    cases u with
    | none => exact h.elim
    | some o =>
      cases o with
      | tr t =>
        cases t with
        | ins c' ns ts =>
          dsimp only at h
          by_cases hc : c' = c ∧ m ∉ ns
          · rw [if_pos hc] at h
            obtain ⟨rfl, hm⟩ := hc
            obtain ⟨v, hv, ro⟩ := r.rep i _ q
            cases (show RepT X.K B H v (.ins c' ns ts) (S i) from ro) with
            | ins k1 k2 k3 k4 k5 k6 =>
              obtain rfl := k2.one hC
              refine ⟨_, _, _, hv, k1, lookup_no (by rw [k3]; exact hm), ?_⟩
              have hc := call_core (X := X) (W := W) (n := n) (dvs := []) (dv := []) (F := F) (ps := P.b i :: ps) (Q := Q) rfl (by rw [hn]; rfl) nd (fun _ => .nil) ⟨B, e, S, r, h⟩
              obtain ⟨w, hw, hc⟩ := hc
              rw [hv] at hw
              cases hw
              rename_i p0 dx0 C0 fs0 S0
              refine tPs_mono ps _ _ _ _ (fun vs H1 t => ?_) hc
              have t' : spD X.K X.mg n F ((V.ref p0 :: vs) ++ []) H1 Q (WE W σ) := t
              rw [List.append_nil] at t'
              exact t'
          · rw [if_neg hc] at h; exact h.elim
        | _ => exact h.elim
      | _ => exact h.elim
theorem d_meth {pl : Sem Bool} (M : MthC X.prog X.w X.K X.mg X.base k c m n F) (hr : Room j X.A) (tk : L2N.Takes X W) (hv : PE X o (tVar i)) (ha : PA X (e :: es) (tPs X.K X.mg W ps)) (hk : k ≤ j := by decide) (hn : n = ps.length + 1 := by rfl) (nd : (bs (P.b i :: ps)).Nodup := by decide)
    (hst : starEach (e :: es) X.env = (false, eval e X.env) :: starEach es X.env := by rfl) (hpl : (backTo pos (starEach es X.env)).any (·.1) = false := by rfl)
    (ht : eval (.Call (.Attribute o m apos) (e :: es) [] pos) X.env = (do
      let ov ← eval o X.env
      standAt apos.atName
      let (f, first) ← holding [ov] (getMethod ov m pl)
      callWith pos f first (backTo pos (starEach (e :: es) X.env)) (backToKw pos (keywordEach [] X.env))) := by rfl) :
    PE X (.Call (.Attribute o m apos) (e :: es) [] pos) (tE X.K X.mg W (eMth c m i F ps)) := by
  obtain ⟨C, f, fd, pn, h0, h1, h2, h3, h4, h5⟩ := M.ex
  refine ⟨fun pins s σ H Q I h => ?_⟩
  obtain ⟨a, dx, fs, g1, g2, g3, q⟩ := mth_core (X := X) (K := X.K) h1 hn nd h
  refine PySem.W.methodCall_KW (pl := pl) (thn (hv.run pins s σ H (fun x H1 => x = .ref a ∧ H1 a = some (.ins C dx fs) ∧ tPs X.K X.mg W ps σ H1 fun vs H1 => spD X.K X.mg n F (.ref a :: vs) H1 Q (WE W σ)) I ⟨_, g1, rfl, g2, q⟩) fun u s1 ⟨x, H1, I1, rx, ex, ea, q⟩ => ?_) ht
  subst ex
  obtain rfl : u = Value.ref a := rx
  refine getmeth_ok I1 ea h2 h3 g3 ?_
  refine PySem.W.callWith_K (first := [.ref a]) (h₀ := X.base) I.ok.mod.kin h3.kp (thn (ha.run pos pins s1 σ H1 _ I1 q) fun us s2 ⟨vs, H2, I2, r, q2⟩ => ⟨I2.kIn, ?_⟩) hst hpl
  refine run_fnSD (us := .ref a :: us) (vs := .ref a :: vs) (ds := []) (dvs := []) (E := WE W) h4 (hr.mono hk) h5 .nil (L2N.passAt tk σ) I2 (.cons rfl r) ?_
  rw [List.append_nil, h0]
  exact q2
theorem d_meth0 {pl : Sem Bool} (M : MthC X.prog X.w X.K X.mg X.base k c m n F) (hr : Room j X.A) (tk : L2N.Takes X W) (hv : PE X o (tVar i)) (hk : k ≤ j := by decide) (hn : n = 1 := by rfl)
    (ht : eval (.Call (.Attribute o m apos) [] [] pos) X.env = (do
      let ov ← eval o X.env
      standAt apos.atName
      let (f, first) ← holding [ov] (getMethod ov m pl)
      callWith pos f first (backTo pos (starEach [] X.env)) (backToKw pos (keywordEach [] X.env))) := by rfl) :
    PE X (.Call (.Attribute o m apos) [] [] pos) (tE X.K X.mg W (eMth c m i F [])) := by
  obtain ⟨C, f, fd, pn, h0, h1, h2, h3, h4, h5⟩ := M.ex
  refine ⟨fun pins s σ H Q I h => ?_⟩
  obtain ⟨a, dx, fs, g1, g2, g3, q⟩ := mth_core (X := X) (K := X.K) (ps := []) h1 hn (by simp [bs]) h
  refine PySem.W.methodCall_KW (pl := pl) (thn (hv.run pins s σ H (fun x H1 => x = .ref a ∧ H1 a = some (.ins C dx fs) ∧ spD X.K X.mg n F [.ref a] H1 Q (WE W σ)) I ⟨_, g1, rfl, g2, q⟩) fun u s1 ⟨x, H1, I1, rx, ex, ea, q⟩ => ?_) ht
  subst ex
  obtain rfl : u = Value.ref a := rx
  refine getmeth_ok I1 ea h2 h3 g3 ?_
  refine PySem.W.callWith_K0 (first := [.ref a]) I1.kIn h3.kp (run_fnSD (us := [.ref a]) (vs := [.ref a]) (ds := []) (dvs := []) (E := WE W) h4 (hr.mono hk) h5 .nil (L2N.passAt tk σ) I1 (.cons rfl .nil) ?_)
  rw [List.append_nil, h0]
  exact q
end
end Dn

namespace Dn
open PySem L2

/-! ## 57. Evaluation: instances that change (the slot's content goes through functions, so that a text may keep it closed) -/
def fldO (c f : Str) : Option O → Option (List L2.Key × List D)
  | some (.tr (.ins c' ns ts)) => if c' = c then (match getT ns ts f with
    | some (.dct ks xs) => some (ks, xs)
    | _ => none) else none
  | _ => none
def putO (f : Str) (ks : List L2.Key) (xs : List D) : Option O → Option O
  | some (.tr (.ins c ns ts)) => some (.tr (.ins c ns (putTx ns ts f (.dct ks xs))))
  | o => o
def setFO (c f : Str) (t : T) : Option O → Option O
  | some (.tr (.ins c' ns ts)) => if c' = c ∧ ns.length < 1000 then some (.tr (.ins c' (putFn ns f) (putTx ns ts f t))) else none
  | _ => none
def rdO (p : List Stp) : Option O → Option D
  | some (.tr t) => match T.sub t p with
    | some (.fr d) => some d
    | _ => none
  | _ => none
def okM (c m : Str) : Option O → Bool
  | some (.tr (.ins c' ns _)) => decide (c' = c ∧ m ∉ ns)
  | _ => false
def keyO' : Option O → Option L2.Key
  | some (.fr d) => keyD d
  | _ => none
section
variable {e : Sl}
theorem fldD_g {c f : Str} {i : Nat} : fldD c f e i = fldO c f (getO e i) := by
  unfold fldD getO
  cases e[i]? with
  | none => rfl
  | some u =>
    cases u with
    | none => rfl
    | some o =>
      cases o with
      | tr t => cases t <;> rfl
      | _ => rfl
theorem keyS_g {j : Nat} : keyS e j = keyO' (getO e j) := by
  unfold keyS getO
  cases e[j]? with
  | none => rfl
  | some u =>
    cases u with
    | none => rfl
    | some o => cases o <;> rfl
def rdR (e : Sl) : Option D → Option (Ro O)
  | some d => some (.ok (.fr d) e)
  | none => none
theorem rdR_s {d : D} : rdR e (some d) = some (.ok (.fr d) e) := nr rfl
theorem eRead_h (i : Nat) (path : List Stp) : eRead i path e = rdR e (rdO path (getO e i)) := by
  unfold eRead getO
  cases e[i]? with
  | none => rfl
  | some u =>
    cases u with
    | none => rfl
    | some o =>
      cases o with
      | tr t =>
        show (match T.sub t path with
          | some (.fr d) => some (.ok (.fr d) e)
          | _ => none) = rdR e (match T.sub t path with
          | some (.fr d) => some d
          | _ => none)
        cases T.sub t path with
        | none => rfl
        | some t' => cases t' <;> rfl
      | _ => rfl
def mthR (e : Sl) (i : Nat) (F : Fn) (ps : List P) : Bool → Option (Ro O)
  | true => eCall F (.b i :: ps) [] e
  | false => none
theorem mthR_t {i : Nat} {F : Fn} {ps : List P} : mthR e i F ps true = eCall F (.b i :: ps) [] e := nr rfl
theorem eMth_h (c m : Str) (i : Nat) (F : Fn) (ps : List P) : eMth c m i F ps e = mthR e i F ps (okM c m (getO e i)) := by
  unfold eMth getO
  cases e[i]? with
  | none => rfl
  | some u =>
    cases u with
    | none => rfl
    | some o =>
      cases o with
      | tr t =>
        cases t with
        | ins c' ns ts =>
          show (if c' = c ∧ m ∉ ns then eCall F (.b i :: ps) [] e else none) = mthR e i F ps (decide (c' = c ∧ m ∉ ns))
          by_cases h : c' = c ∧ m ∉ ns
          · rw [if_pos h, decide_eq_true h]; rfl
          · rw [if_neg h, decide_eq_false h]; rfl
        | _ => rfl
      | _ => rfl
def getR (e : Sl) : Option (List L2.Key × List D) → Option L2.Key → Option (Ro O)
  | some (ks, xs), some k => some (.ok (.fr ((getK ks xs k).getD .non)) e)
  | _, _ => none
theorem getR_s {ks : List L2.Key} {xs : List D} {k : L2.Key} : getR e (some (ks, xs)) (some k) = some (.ok (.fr ((getK ks xs k).getD .non)) e) := nr rfl
theorem eGetF_h (c f : Str) (i j : Nat) : eGetF c f i j e = getR e (fldO c f (getO e i)) (keyO' (getO e j)) := by
  unfold eGetF
  rw [fldD_g, keyS_g]
  cases fldO c f (getO e i) with
  | none => rfl
  | some u =>
    obtain ⟨ks, xs⟩ := u
    cases keyO' (getO e j) <;> rfl
def keysR (e : Sl) : Option (List L2.Key × List D) → Option (Ro O)
  | some (ks, _) => some (.ok (.lst (ks.map keyO)) e)
  | none => none
theorem keysR_s {ks : List L2.Key} {xs : List D} : keysR e (some (ks, xs)) = some (.ok (.lst (ks.map keyO)) e) := nr rfl
theorem eKeysF_h (c f : Str) (i : Nat) : eKeysF c f i e = keysR e (fldO c f (getO e i)) := by
  unfold eKeysF
  rw [fldD_g]
  cases fldO c f (getO e i) with
  | none => rfl
  | some u => rfl
def setR (e : Sl) (i : Nat) : Option O → Option (Ro Fl)
  | some o => some (.ok .next (e.set i (some o)))
  | none => none
theorem setR_s {i : Nat} {o : O} : setR e i (some o) = some (.ok .next (e.set i (some o))) := nr rfl
theorem sSetFT_h (c f : Str) (i : Nat) (g : M O) : sSetFT c f i g e = @thn' _ _ (g e) ⟨fun o e1 => setR e1 i (setFO c f o.t (getO e1 i))⟩ := by
  unfold sSetFT
  rw [bind_a]
  have k : ∀ (e1 : Sl) (o : O), (match e1[i]? with
    | some (some (.tr (.ins c' ns ts))) => if c' = c ∧ ns.length < 1000 then some (.ok .next (e1.set i (some (.tr (.ins c' (putFn ns f) (putTx ns ts f o.t)))))) else none
    | _ => none) = setR e1 i (setFO c f o.t (getO e1 i)) := fun e1 o => by
    unfold getO
    cases e1[i]? with
    | none => rfl
    | some u =>
      cases u with
      | none => rfl
      | some o1 =>
        cases o1 with
        | tr t =>
          cases t with
          | ins c' ns ts =>
            show (if c' = c ∧ ns.length < 1000 then _ else none) = setR e1 i (if c' = c ∧ ns.length < 1000 then _ else none)
            by_cases h : c' = c ∧ ns.length < 1000
            · rw [if_pos h, if_pos h]; rfl
            · rw [if_neg h, if_neg h]; rfl
          | _ => rfl
        | _ => rfl
  cases g e with
  | none => rfl
  | some r =>
    cases r with
    | ex x e1 => rfl
    | ok o e1 => exact k e1 o
def putR (e : Sl) (i : Nat) (f : Str) (d : D) : Option (List L2.Key × List D) → Option L2.Key → Option (Ro Fl)
  | some (ks, xs), some k => if ks.length < sizeLine then setR e i (putO f (putKs ks k) (putXs ks xs k d) (getO e i)) else none
  | _, _ => none
theorem putR_s {i : Nat} {f : Str} {d : D} {ks : List L2.Key} {xs : List D} {k : L2.Key} (h : ks.length < sizeLine) : putR e i f d (some (ks, xs)) (some k) = setR e i (putO f (putKs ks k) (putXs ks xs k d) (getO e i)) := if_pos h
theorem sPutF_h (c f : Str) (i j : Nat) (g : M O) : sPutF c f i j g e = @thn' _ _ (g e) ⟨fun o e1 => putR e1 i f o.d (fldO c f (getO e1 i)) (keyO' (getO e1 j))⟩ := by
  unfold sPutF
  rw [bind_a]
  cases g e with
  | none => rfl
  | some r =>
    cases r with
    | ex x e1 => rfl
    | ok o e1 =>
      show (match fldD c f e1 i with
        | some (ks, xs) => (match keyS e1 j with
          | some k => if ks.length < sizeLine then some (Ro.ok Fl.next (setD f e1 i (putKs ks k) (putXs ks xs k o.d))) else none
          | none => none)
        | none => none) = putR e1 i f o.d (fldO c f (getO e1 i)) (keyO' (getO e1 j))
      rw [fldD_g, keyS_g]
      cases q : fldO c f (getO e1 i) with
      | none => rfl
      | some u =>
        obtain ⟨ks, xs⟩ := u
        cases keyO' (getO e1 j) with
        | none => rfl
        | some k =>
          show (if ks.length < sizeLine then _ else none) = (if ks.length < sizeLine then _ else none)
          by_cases hl : ks.length < sizeLine
          · rw [if_pos hl, if_pos hl]
            unfold setD getO
            unfold getO at q
            cases e : e1[i]? with
            | none => rw [e] at q; cases q
            | some u =>
              rw [e] at q
              cases u with
              | none => cases q
              | some o1 =>
                cases o1 with
                | tr t =>
                  cases t with
                  | ins c' ns ts => rfl
                  | _ => cases q
                | _ => cases q
          · rw [if_neg hl, if_neg hl]
end
end Dn

namespace Dn
open PySem L2 PyProof.Rows
open Evl (Ex)
open AutoSeq1 (wpAny_loadPart')

/-! ## 58. enumerate(tuple) -/
theorem en_newT (t : Addr) (items : Array Value) (n : Nat) (dct : Option Addr) (sl : Array (Option Value)) :
    Meets (Builtin.«enumerate.__new__» ⟨[.type "enumerate", .ref t], []⟩) (fun _ R s => s.heap.get? t = some { cls := .type "tuple", dict := dct, data := .seq items n, slots := sl } ∧
      R (.ok (.ret (.ref (s.heap.push { cls := .type "tuple_iterator", data := .fields #[.ref t, .int 0 0] }).objs.size)))
        { s with heap := (s.heap.push { cls := .type "tuple_iterator", data := .fields #[.ref t, .int 0 0] }).push { cls := .type "enumerate", data := .fields #[.none, .bool false, .ref s.heap.objs.size, rawInt 0, .none, .none] } }) :=
  .of_wp fun prog w A R s h => by
    obtain ⟨hp, g, d, tk, os⟩ := s; obtain ⟨hl, h⟩ := h
    have hsub := sub_enumerate
    have hL : Heap.IsTuple (Shared.heap ⟨hp, g, d, tk, os⟩) t items := ⟨_, hl, rfl, n, rfl⟩
    wp_walk using wpAny_loadPart' hl
    refine wpAny_stack_any fun st => wpAny_pure ?_
    split
    · rename_i c _ _ _ _ _
      cases (c == Value.type "enumerate")
      · wp_walk using wpAny_loadPart' hl, wpAny_pyIter_tuple hL
        exact ⟨_, rfl, h⟩
      · wp_walk using wpAny_loadPart' hl, wpAny_pyIter_tuple hL
        exact ⟨_, rfl, h⟩
    · wp_walk using wpAny_loadPart' hl, wpAny_pyIter_tuple hL
      exact ⟨_, rfl, h⟩
section
variable {prog : Program} {w : World} {A : Around} {E : Value → Shared → Prop} {s : Shared}
theorem en_callT {t : Addr} {items : Array Value} {Q : Value → Shared → Prop} (hL : s.heap.IsTuple t items)
    (h : ∀ h', IsEnum h' (s.heap.objs.size + 1) s.heap.objs.size 0 .none → h'.IsTupleIter s.heap.objs.size t 0 → h'.objs.size = s.heap.objs.size + 2 →
      (∀ b o, s.heap.get? b = some o → h'.get? b = some o) → Q (.ref (s.heap.objs.size + 1)) { s with heap := h' }) :
    wpAny (model prog w) A (call (.type "enumerate") [.ref t]) Q E s := by
  obtain ⟨⟨c, dct, dt, sl⟩, hl, hc, n, hd⟩ := hL
  replace hc : c = .type "tuple" := hc
  replace hd : dt = .seq items n := hd
  subst hc hd
  refine callType_new F.called_enumerate (by decide) (F.typeCall_enumerate_1 _) (F.newCall_enumerate_1 _) (fun obj => F.args_object_init_2 obj _) F.entry_enumerate_new
    (en_newT t items n dct sl) ⟨hl, ?_⟩
  have hz : (s.heap.push { cls := .type "tuple_iterator", data := .fields #[.ref t, .int 0 0] }).objs.size = s.heap.objs.size + 1 := Heap.size_push ..
  show _ ∧ _
  rw [hz]
  have he : IsEnum ((s.heap.push { cls := .type "tuple_iterator", data := .fields #[.ref t, .int 0 0] }).push
      { cls := .type "enumerate", data := .fields #[.none, .bool false, .ref s.heap.objs.size, rawInt 0, .none, .none] }) (s.heap.objs.size + 1) s.heap.objs.size 0 .none := by
    have := Heap.get?_push_size (s.heap.push { cls := .type "tuple_iterator", data := .fields #[.ref t, .int 0 0] })
      (o := { cls := .type "enumerate", data := .fields #[.none, .bool false, .ref s.heap.objs.size, rawInt 0, .none, .none] }) rfl
    rw [hz] at this; exact this
  refine ⟨⟨_, he, rfl⟩, h _ he ⟨_, Heap.get?_push_of_some _ (Heap.get?_push_size _ rfl), rfl, rfl⟩ (by rw [Heap.size_push, hz]) fun b o x => Heap.get?_push_of_some _ (Heap.get?_push_of_some _ x)⟩
end
/-- the tuple at a, each item in a new pair -/
def IteT (K : PySem.W.Frag) (a : Addr) : It :=
  ⟨fun i H => ∃ (xs : List V) (x : V), SqT K H a xs ∧ xs[i]? = some x, fun i H v H' => ∃ T x, v = .ref T ∧ H T = none ∧ H' = L2.upd H T (.tup [.int (i : Nat), x]) ∧ ∀ xs, SqT K H a xs → xs[i]? = some x, fun i H => ∃ xs : List V, SqT K H a xs ∧ xs.length = i⟩
theorem turn_enT {P : Program} {w : World} {K : PySem.W.Frag} {elts : List Expr} {kk : Nat} {tpos : Pos} (a e it : Addr) :
    Turn P w K (.Tuple elts kk tpos) (IteT K a) [e, it] e (fun i h => (∃ old, IsEnum h e it ((i : Nat) : Int) old) ∧ h.IsTupleIter it a i ∧ e ≠ it ∧ a ≠ it ∧ a ≠ e) where
  mem := by simp
  obj := fun i h st b hb => by
    obtain ⟨⟨old, he⟩, ⟨o, ho, hc, hd⟩, _⟩ := st
    have e' : b = e ∨ b = it := by simpa using hb
    rcases e' with z | z
    · rw [z]; exact ⟨_, he, fun v q => nomatch q⟩
    · rw [z]; exact ⟨o, ho, fun v q => by rw [hd] at q; cases q⟩
  keep := fun i h h' st k => let ⟨⟨old, he⟩, hi, hne⟩ := st; ⟨⟨old, k e (by simp) _ he⟩, hi.at fun o q => k it (by simp) o q, hne⟩
  item := by
    intro X hP hw hK hc i pins s σ H E I hf st hg
    subst hP hw hK
    obtain ⟨⟨old, he⟩, hit, hne, n1, n2⟩ := st
    obtain ⟨xs, x, hq, hx⟩ := hg
    obtain ⟨its, rv, p, hz⟩ := I.tuple hq
    obtain ⟨u, hu, ru⟩ := rv.get hx
    have hel : e < s.heap.objs.size := Heap.lt_size he
    have hil : it < s.heap.objs.size := by obtain ⟨_, q, _⟩ := hit; exact Heap.lt_size q
    have lt : i < its.toArray.size := by have := (List.getElem?_eq_some_iff.mp hu).1; simpa using this
    refine wpAny_pyNext_enum_itemD (drawT (A := X.A.in1) (show X.A.in1.handled = none from I.ok.hd hc) it a n1 its.toArray) he ⟨hit, p⟩ lt hne (by simp [hne, n2.symm]) fun x1 h' tk hP ho hit' hT hsz hk => ?_
    have ex : x1 = u := by
      have h1 : its[i]? = some x1 := by simpa using hP
      rw [hu] at h1
      injection h1 with h1
      exact h1.symm
    subst ex
    refine ⟨_, rfl, wpAny_letOwnedTupleGo_enum (s := { s with heap := h', toks := tk + 1 }) ho fun h'' he' sb => ?_⟩
    have hT2 : h''.get? s.heap.objs.size = some { cls := .type "tuple", data := .seq #[.int i tk, x1] } := (sb.2 _ (Nat.ne_of_gt hel)).trans hT
    have new : ObjOk X.prog X.w (L2.upd H s.heap.objs.size (.tup [.int (i : Nat), x])) h'' s.heap.objs.size (.tup [.int (i : Nat), x]) :=
      ⟨by show 2 ≤ sizeLine; decide, [.int i tk, x1], .cons ⟨_, rfl⟩ (.cons ru .nil), ⟨_, hT2, rfl, _, rfl⟩⟩
    have I1 : Inv X pins σ (L2.upd H s.heap.objs.size (.tup [.int (i : Nat), x])) { s with heap := h'', toks := tk + 1 } :=
      I.turnedNew (ch := [e, it]) (fun b ob hb q => (sb.2 b (fun z => hb (by simp [z]))).trans (hk b ob (fun z => hb (by simp [z])) (fun z => hb (by simp [z])) q)) hf (Nat.le_refl _) new
    refine ⟨.ref s.heap.objs.size, _, I1, rfl, ⟨_, x, rfl, I.hok.fresh (Nat.le_refl _), rfl, fun ys hy => by rw [I.tuple_inj hy hq]; exact hx⟩, ⟨⟨x1, ?_⟩, hit'.1.at fun o q => (sb.2 it (Ne.symm hne)).trans q, hne, n1, n2⟩, fun b hb => ?_⟩
    · have e1 : ((i + 1 : Nat) : Int) = (i : Int) + 1 := by omega
      rw [e1]; exact he'
    · have hb' : b < s.heap.objs.size := by
        have e' : b = e ∨ b = it := by simpa using hb
        rcases e' with z | z
        · rw [z]; exact hel
        · rw [z]; exact hil
      rw [upd_ne (Nat.ne_of_lt hb')]
      exact (hf b hb).1
  done := by
    intro X hP hw hK hc i pins s σ H E I hf st hg
    subst hP hw hK
    obtain ⟨⟨old, he⟩, hit, hne, n1, n2⟩ := st
    obtain ⟨xs, hq, hx⟩ := hg
    obtain ⟨its, rv, p, hz⟩ := I.tuple hq
    obtain ⟨f0, f1, f2, f3, f4, f5⟩ := hf it (by simp)
    have hl := rv.length
    have hi : i = its.toArray.size := by simp; omega
    subst hi
    exact wpAny_pyNext_enum_endD (drawT (A := X.A.in1) (show X.A.in1.handled = none from I.ok.hd hc) it a n1 its.toArray) he ⟨hit, p⟩ fun h' eb => ⟨rfl, I.turned (t' := s.toks) (fun b o hb q => eb b o hb q) f0 f1 f3 f4 f5⟩
  self := fun A i s Q E st h => let ⟨⟨_, he⟩, _⟩ := st; wpAny_pyIter_enum he h
def iEnumT (K : PySem.W.Frag) (ta : TA) : TI := fun σ H R => ta σ H fun vs H1 => ∃ a xs, vs = [.ref a] ∧ SqT K H1 a xs ∧ R (IteT K a) H1
theorem walkT {K : PySem.W.Frag} {a : Addr} {xs : List V} : Walk (IteT K a) xs.length (fun H => SqT K H a xs) (YPair (fun i => some (.int (i : Nat))) (fun i => xs[i]?)) := by
  constructor
  · rintro i H hi q
    exact ⟨xs, xs[i], q, List.getElem?_eq_getElem hi⟩
  · rintro H q
    exact ⟨xs, q, rfl⟩
  · rintro i H v H' _ q ⟨T, x, e1, e2, e3, e4⟩
    exact ⟨T, _, x, e1, e2, e3, rfl, e4 xs q⟩
theorem walkD_enT {K : PySem.W.Frag} {B H : Hp} {a : Addr} {xs : List V} {ds : List D} (h : SqT K B a xs) (r : RepL K B xs ds) : WalkD K (IteT K a) B (enumD 0 ds) := by
  refine ⟨_, _, by rw [enumD_len, ← r.length]; exact walkT (xs := xs), fun H e => Evl.ex_t e h, fun i H x H' B1 hi h1 h2 y => ?_⟩
  obtain ⟨T, u, v, rfl, hT, rfl, hu, hv⟩ := y
  cases hu
  obtain ⟨d, hd, rd⟩ := r.get' hv
  have g := Gr.new h2 hT (.tup [.int (i : Nat), v])
  refine ⟨_, .tup [.int ((0 + i : Nat) : Int), d], g, enumD_get ds 0 i d hd, .tup (.inl upd_same) ?_⟩
  rw [Nat.zero_add]
  exact .cons (.int _) (.cons ((rd.mono h1).mono g.b) .nil)
def sEnumT (f : M O) : M (List D) := (items [f]).bind fun ds e => match ds with
  | [.tup xs] => some (.ok (enumD 0 xs) e)
  | _ => none
section
variable {X : Cx} {W : WX} {e : Expr} {ta : TA} {p pos tpos : Pos} {elts : List Expr} {kk : Nat} {f : M O}
theorem pi_enumT (hg : Gl X "enumerate") (hm : X.mg "enumerate" = none) (ha : PA X [e] ta) (hs : starEach [e] X.env = [(false, eval e X.env)] := by rfl) :
    PI X (.Tuple elts kk tpos) (.Call (.Name "enumerate" p) [e] [] pos) (iEnumT X.K ta) := by
  refine ⟨fun pins s σ H R I h => ?_⟩
  refine Call_ (ld_blt I hg hm boot_enumerate (PyProof.Rows.callWith_type1 (thn (ha.run pos pins s σ H _ I h) fun us s1 ⟨vs, H1, I1, r1, q1⟩ => ?_) hs rfl))
  obtain ⟨a, xs, ex, hq, q⟩ := q1
  subst ex
  cases r1 with
  | cons r rr =>
    cases rr
    cases r
    obtain ⟨its, rv, p', hz⟩ := I1.tuple hq
    obtain ⟨o1, ho1, _⟩ := id p'
    have la := Heap.lt_size ho1
    refine en_callT p' fun h' he hit hsz hk => wpAny_pyIter_enum he ?_
    have I2 : Inv X pins σ H1 { s1 with heap := h' } := I1.kept (t' := s1.toks) hk
    refine ⟨s1.heap.objs.size + 1, [s1.heap.objs.size + 1, s1.heap.objs.size], _, _, H1, rfl, I2, turn_enT a (s1.heap.objs.size + 1) s1.heap.objs.size, ⟨⟨.none, he⟩, hit, Nat.succ_ne_self _, Nat.ne_of_lt la, Nat.ne_of_lt (Nat.lt_succ_of_lt la)⟩, fun b hb => ?_, q⟩
    have e' : b = s1.heap.objs.size + 1 ∨ b = s1.heap.objs.size := by simpa using hb
    have hle : s1.heap.objs.size ≤ b := by
      rcases e' with z | z
      · rw [z]; exact Nat.le_add_right _ _
      · rw [z]; exact Nat.le_refl _
    exact I1.fpOk hle (I1.hok.fresh hle)
theorem i_enumT (hg : Gl X "enumerate") (hm : X.mg "enumerate" = none) (ha : PE X e (tE X.K X.mg W f)) (hs : starEach [e] X.env = [(false, eval e X.env)] := by rfl) :
    PI X (.Tuple elts kk tpos) (.Call (.Name "enumerate" p) [e] [] pos) (tSrc X.K X.mg W (sEnumT f)) := pi_imp (pi_enumT hg hm (is_c (f := f) ha is_n hs) hs) fun σ H R h => by
  obtain ⟨B, e, S, r, h⟩ := h
  refine items_run [f] _ r (h.bind.imp (fun ds e' h2 vs B' H' S' r' rl fr => ?_) fun _ _ z => z)
  cases rl with
  | nil => exact h2.elim
  | cons rv rl =>
    cases rl with
    | cons _ _ => cases rv <;> exact h2.elim
    | nil =>
      cases rv with
      | tup k1 k2 => exact ⟨_, _, rfl, Evl.ex_t r'.ex k1.sq, (show ∀ J B' H' S', Rp X.K B' H' σ e' S' → Fr B H (tot S) B' H' (tot S') → WalkD X.K J B' _ → R J H' from h2) _ B' H' S' r' fr (walkD_enT (H := H') k1.sq k2)⟩
      | _ => exact h2.elim
end
theorem sEnumT_e {e : Sl} (f : M O) : sEnumT f e = @thn' _ _ (f e) ⟨fun o e1 => match [o.d] with
  | [.tup xs] => some (.ok (enumD 0 xs) e1)
  | _ => none⟩ := by
  unfold sEnumT M.bind
  rw [items_c]
  cases f e with
  | none => rfl
  | some r => cases r with
    | ex x e1 => rfl
    | ok o e1 => rfl
end Dn

namespace Dn
open PySem L2
open He (ga ma eqO eqO_ok ba)

/-! ## 60. The head: facts of the written part, read by one kernel run -/
theorem excX_ok {K : PySem.W.Frag} {C : Addr} (h : excX K C = true) : ∃ (nm q : Str) (N : Addr) (bs bm : List Value) (sn : List Str) (sub : List Value) (ab : Bool) (col : Option Bool) (dd : Option Addr) (m0 m1 m2 m3 m5 : Option Value),
    K.lookup C = some (excClassObj nm q C N bs bm true sn sub ab col dd m0 m1 m2 m3 m5 "ValueError.__new__") ∧ PySem.HandSPX.refsVE bm = true := by
  unfold excX at h
  cases hl : K.lookup C with
  | none => rw [hl] at h; cases h
  | some o =>
    obtain ⟨oc, od, dt, sl⟩ := o
    rw [hl] at h
    cases oc with
    | type c =>
      cases dt with
      | cls cd =>
        obtain ⟨nm, bs, mro, ns, qn, hd, sn, sub, ab, col, del⟩ := cd
        obtain ⟨sl⟩ := sl
        obtain ⟨h1, h⟩ := ba h
        obtain ⟨h2, h⟩ := ba h
        obtain ⟨h3, h⟩ := ba h
        obtain ⟨h4, h5⟩ := ba h
        have e1 := of_decide_eq_true h1
        subst e1
        dsimp only at h2 h3 h4 h5
        match mro, h2 with
        | .ref C' :: bm, h2 =>
          obtain ⟨h6, h7⟩ := ba h2
          have e6 := of_decide_eq_true h6
          subst e6
          match sl, h3 with
          | [k0, k1, k2, k3, some (.builtin n), k5], h3 =>
            have e3 := of_decide_eq_true h3
            subst e3
            cases hd with
            | false => cases h4
            | true =>
              cases del with
              | true => cases h5
              | false => exact ⟨nm, qn, ns, bs, bm, sn, sub, ab, col, od, k0, k1, k2, k3, k5, rfl, h7⟩
      | _ => cases h
    | _ => cases dt <;> cases h
theorem unitB_ok {K : PySem.W.Frag} {a : Addr} (h : unitB K a = true) : ∃ (dd : Option Addr) (n : Nat) (sl : Array (Option Value)), K.lookup a = some ⟨.type "tuple", dd, .seq #[] n, sl⟩ := by
  unfold unitB at h
  cases hl : K.lookup a with
  | none => rw [hl] at h; cases h
  | some o =>
    obtain ⟨oc, od, dt, sl⟩ := o
    rw [hl] at h
    cases oc with
    | type c =>
      cases dt with
      | seq its n =>
        obtain ⟨h1, h2⟩ := ba h
        rw [of_decide_eq_true h1, Array.isEmpty_iff.mp h2]
        exact ⟨od, n, sl, rfl⟩
      | _ => cases h
    | _ => cases dt <;> cases h
theorem strsB_ok : ∀ {zs : List Str} {us : List Value}, strsB zs us = true → Vals (zs.map V.str) us
  | [], [], _ => .nil
  | [], _ :: _, h => by cases h
  | x :: xs, [], h => by cases h
  | x :: xs, u :: us, h => by
    cases u with
    | str y t =>
      obtain ⟨h1, h2⟩ := ba (show (decide (x = y) && strsB xs us) = true from h)
      exact .cons ⟨t, by rw [of_decide_eq_true h1]⟩ (strsB_ok h2)
    | _ => cases h
theorem rep_strs {K : PySem.W.Frag} {B : Hp} : ∀ zs : List Str, RepL K B (zs.map V.str) (zs.map D.str)
  | [] => .nil
  | z :: zs => .cons (.str _) (rep_strs zs)
theorem tupX_ok {K : PySem.W.Frag} {mg : Str → Option Value} {x : Str} {a : Addr} {zs : List Str} (hm : mg x = some (.ref a)) (h : tupX K a zs = true) (hz : zs.length ≤ 1) : TupC K mg x (zs.map D.str) := by
  unfold tupX at h
  cases hl : K.lookup a with
  | none => rw [hl] at h; cases h
  | some o =>
    obtain ⟨oc, od, dt, sl⟩ := o
    rw [hl] at h
    cases oc with
    | type c =>
      cases dt with
      | seq its n =>
        obtain ⟨h1, h⟩ := ba h
        obtain ⟨h2, h3⟩ := ba h
        have e1 := of_decide_eq_true h1
        subst e1
        exact ⟨⟨a, _, its, n, zs.map V.str, hm, hl, rfl, rfl, of_decide_eq_true h2, strsB_ok h3, by rw [List.length_map]; exact hz, fun B => rep_strs zs⟩⟩
      | _ => cases h
    | _ => cases dt <;> cases h
theorem tabE_of {P : Params} : ∀ {es : List DictEntry} {l : List (Str × Int)}, es.map rowD = rowsX P l → TabE P es l
  | [], [], _ => .nil
  | [], _ :: _, h => by cases h
  | _ :: _, [], h => by cases h
  | e :: es, (x, i) :: l, h => by
    have h1 : rowD e :: es.map rowD = some (x, i, PyData.keyHash P x) :: rowsX P l := h
    injection h1 with h2 h3
    unfold rowD at h2
    cases hk : e.key with
    | str y t =>
      cases hv : e.val with
      | int j u =>
        rw [hk, hv] at h2
        have h4 := Option.some.inj h2
        injection h4 with h5 h6
        injection h6 with h7 h8
        exact .cons ⟨t, by rw [hk, h5]⟩ ⟨u, by rw [hv, h7]⟩ h8 (tabE_of h3)
      | _ => rw [hk, hv] at h2; cases h2
    | _ => rw [hk] at h2; cases h2
theorem dicX_ok {K : PySem.W.Frag} {w : World} {mg : Str → Option Value} {x : Str} {a : Addr} {l : List (Str × Int)} (hm : mg x = some (.ref a)) (h : dicX K a = some (rowsX w.params l)) : KTab K w mg x l := by
  unfold dicX at h
  cases hl : K.lookup a with
  | none => rw [hl] at h; cases h
  | some o =>
    obtain ⟨oc, od, dt, sl⟩ := o
    rw [hl] at h
    cases oc with
    | type c =>
      cases od with
      | none =>
        cases dt with
        | dict es n =>
          dsimp only at h
          cases z : decide (c = "dict") && (sl.isEmpty && !(a == sysModules)) with
          | false => rw [z] at h; cases h
          | true =>
            rw [z] at h
            obtain ⟨z1, z2⟩ := ba z
            obtain ⟨z3, z4⟩ := ba z2
            have e1 := of_decide_eq_true z1
            have e2 := Array.isEmpty_iff.mp z3
            subst e1 e2
            exact ktab_mk hm hl (by simpa using z4) (tabE_of (Option.some.inj h))
        | _ => cases h
      | some b => cases dt <;> cases h
    | _ => cases od <;> cases dt <;> cases h

/-! ### facts -/
section
variable {K : PySem.W.Frag} {h : Heap} {mg : Str → Option Value}
theorem glo_n {x : Str} (e : (He.Fa.glo x).ok K = true) : PySem.W.nsIn K mainGlobals x = some (some (.ref (ga K x))) := eqO_ok e
theorem sub_f {c d : Str} {b : Bool} (e : (Fx.sub c d b).ok K = true) : PySem.W.subIn K (.ref (ga K c)) (.ref (ga K d)) = some b := of_decide_eq_true e
theorem subT_f {c : Str} {t : String} {b : Bool} (e : (Fx.subT c t b).ok K = true) : PySem.W.subIn K (.ref (ga K c)) (.type t) = some b := of_decide_eq_true e
structure ExcF (K : PySem.W.Frag) (C : Addr) : Prop where
  er : ErC K C
  xf : XfC K C
  ec : ExcC K C
  eC : PySem.W.subIn K (.ref C) (.type "BaseException") = some true
  hC : PySem.W.hasDictIn K C = true
  tC : PySem.W.typeIn K (.ref C) = some (.type "type")
theorem exc_f {c : Str} (e : (Fx.exc c).ok K = true) : ExcF K (ga K c) := by
  obtain ⟨h0, e⟩ := ba e
  obtain ⟨sa, e⟩ := ba e
  obtain ⟨gt, e⟩ := ba e
  obtain ⟨gg, e⟩ := ba e
  obtain ⟨nW, e⟩ := ba e
  obtain ⟨nP, e⟩ := ba e
  obtain ⟨kC, e⟩ := ba e
  obtain ⟨eC, e⟩ := ba e
  obtain ⟨tC, e⟩ := ba e
  obtain ⟨hC, e⟩ := ba e
  obtain ⟨ca, e⟩ := ba e
  obtain ⟨hn, e⟩ := ba e
  obtain ⟨ht, mo⟩ := ba e
  obtain ⟨nm, q, N, bs, bm, sn, sub, ab, col, dd, m0, m1, m2, m3, m5, xL, hbm⟩ := excX_ok h0
  have ek := ek_mk (mg := fun _ => some (.ref (ga K c))) (x := c) rfl xL hbm (eqO_ok sa) (eqO_ok gt) (eqO_ok gg) (eqO_ok nW) (eqO_ok nP) kC (of_decide_eq_true eC) (of_decide_eq_true tC) hC (eqO_ok ca) (eqO_ok hn) (of_decide_eq_true ht) (of_decide_eq_true mo)
  exact ⟨ek.er, ek.xf, ek.ec, of_decide_eq_true eC, hC, of_decide_eq_true tC⟩
theorem ek_f {c : Str} (hm : mg c = some (.ref (ga K c))) (e : ExcF K (ga K c)) : Ek K mg c (ga K c) := ⟨hm, e.er, e.xf, e.ec⟩
theorem exi_f {c : Str} (e : (Fx.exi c).ok K = true) : PySem.W.findIn K (.ref (ga K c)) "__init__" = some (some (.ref (ma K (ga K c) "__init__"))) ∧ PySem.W.typeIn K (.ref (ma K (ga K c) "__init__")) = some (.type "function") := by
  obtain ⟨h1, h2⟩ := ba e
  exact ⟨eqO_ok h1, of_decide_eq_true h2⟩
theorem exc0_f {c : Str} (e : (Fx.exc0 c).ok K = true) : PySem.W.readsIn K (ga K c) (.type "type") = true ∧ PySem.W.specialIn K (.ref (ga K c)) "__getattribute__" = some (some (.builtin "type.__getattribute__")) ∧
    PySem.W.findCls K (.ref (ga K c)) (.type "type") "__init__" = some (.val (.ref (ma K (ga K c) "__init__"))) := by
  obtain ⟨h1, e⟩ := ba e
  obtain ⟨h2, h3⟩ := ba e
  refine ⟨h1, eqO_ok h2, ?_⟩
  split at h3
  · rename_i f hf
    rw [hf, of_decide_eq_true h3]
  · cases h3
theorem prp_f {c m : Str} (e : (Fx.prp c m).ok K = true) : PySem.W.findIn K (.ref (ga K c)) m = some (some (.ref (ma K (ga K c) m))) ∧ PySem.W.specialIn K (.ref (ma K (ga K c) m)) "__get__" = some (some (.builtin "property.__get__")) ∧
    PySem.W.takesIn K (.ref (ma K (ga K c) m)) = some true ∧ ∃ r, PySem.W.recIn K (ma K (ga K c) m) "property" = some (.ref (prA K (ga K c) m) :: r) := by
  obtain ⟨h1, e⟩ := ba e
  obtain ⟨h2, e⟩ := ba e
  obtain ⟨h3, h4⟩ := ba e
  refine ⟨eqO_ok h1, eqO_ok h2, of_decide_eq_true h3, ?_⟩
  split at h4
  · rename_i f r hf
    exact ⟨r, by rw [hf, ← of_decide_eq_true h4]⟩
  · cases h4
theorem unit_f {a : PySem.W.Frag → Addr} {B : Hp} (e : (Fx.unit a).ok K = true) : Rep K B (.ref (a K)) (.tup []) := by
  obtain ⟨dd, n, sl, l⟩ := unitB_ok e
  exact rep_unit l
theorem tup_f {x : Str} {zs : List Str} (hm : mg x = some (.ref (ga K x))) (e : (Fx.tup x zs).ok K = true) (hz : zs.length ≤ 1) : TupC K mg x (zs.map D.str) := tupX_ok hm e hz
end
theorem funX_of {K : PySem.W.Frag} {x qual : Str} {st : Stmt} {f : Addr} {fd : FuncData} {dvs : List V} {kws : List (Str × V)} (F : FunD K x qual (defArgs st) (defBody st) (defScope st) dvs kws f fd) : FunX K x qual st f fd := by
  obtain ⟨oc, od, dV, kV, doc, pm, an, cdv, ct, osl, e, l, c, _, _⟩ := F.ex
  exact ⟨⟨oc, od, dV, kV, doc, pm, an, cdv, ct, osl, e, l, c⟩⟩

/-! ### what is looked at -/
/-! ### the Hook -/
theorem obL_eq {fa : List He.Fa} {fx : List Fx} {fn : List He5.DefA} {ts : List TabK} (s : PySem.W.SharedT) : obL fa fx fn ts s = (hookL fa fx fn ts).obs s.abs := by
  have e : HandSHeadRun.getT s = s.abs.heap.get? := funext (HandSHeadRun.getT_eq s)
  unfold obL
  rw [e]
  rfl
section
variable {fa : List He.Fa} {fx : List Fx} {fn : List He5.DefA} {ts : List TabK} {w : World} {K : PySem.W.Frag}
theorem sayA (c : obsL fa fx fn ts K = valL fn ts w) (i : Nat) {f : He.Fa} (h : fa[i]? = some f := by rfl) : f.ok K = true := by
  have c1 := (ba (show ((fa.all fun f => f.ok K) && ((fx.all fun f => f.ok K) && fn.all fun d => d.ok K)) = true from congrArg (fun z : AlL => z.1) c)).1
  exact List.all_eq_true.mp c1 f (List.mem_of_getElem? h)
theorem sayX (c : obsL fa fx fn ts K = valL fn ts w) (i : Nat) {f : Fx} (h : fx[i]? = some f := by rfl) : f.ok K = true := by
  have c1 := (ba (ba (show ((fa.all fun f => f.ok K) && ((fx.all fun f => f.ok K) && fn.all fun d => d.ok K)) = true from congrArg (fun z : AlL => z.1) c)).2).1
  exact List.all_eq_true.mp c1 f (List.mem_of_getElem? h)
theorem sayD (c : obsL fa fx fn ts K = valL fn ts w) (i : Nat) {d : He5.DefA} (h : fn[i]? = some d := by rfl) : ∃ fd, FunD K d.name d.qual d.params d.body d.scope (d.dvs K) (d.kws K) (d.at_ K) fd := by
  have c1 := (ba (ba (show ((fa.all fun f => f.ok K) && ((fx.all fun f => f.ok K) && fn.all fun d => d.ok K)) = true from congrArg (fun z : AlL => z.1) c)).2).2
  have e : fn.map (fun d => He5.fnA K (d.at_ K)) = fn.map He5.DefA.val := congrArg (fun z : AlL => z.2.1) c
  have e2 : (fn.map fun d => He5.fnA K (d.at_ K))[i]? = (fn.map He5.DefA.val)[i]? := by rw [e]
  rw [List.getElem?_map, List.getElem?_map, h] at e2
  exact He5.DefA.funD (Option.some.inj e2) (List.all_eq_true.mp c1 d (List.mem_of_getElem? h))
theorem sayT (c : obsL fa fx fn ts K = valL fn ts w) (i : Nat) {t : TabK} (h : ts[i]? = some t := by rfl) : dicX K (ga K t.1) = some (rowsX w.params t.2) := by
  have e : ts.map (fun t => dicX K (ga K t.1)) = ts.map (fun t => some (rowsX w.params t.2)) := congrArg (fun z : AlL => z.2.2) c
  have e2 : (ts.map fun t => dicX K (ga K t.1))[i]? = (ts.map fun t => some (rowsX w.params t.2))[i]? := by rw [e]
  rw [List.getElem?_map, List.getElem?_map, h] at e2
  exact Option.some.inj e2
end
/-- the end over such a head -/
theorem walk_L {l : PySem.W.OpenLaw} {k : Nat} {q : Program} {loose : List Str} {XP : (Str → Option Value) → Heap → Prop} {YP : World → Heap → Prop} {d : DefRec} {x : Str}
    (hn : l.most = some 63) (hdf : d.params.defaults = []) (hr : Room k callerA)
    (F : ∀ (w : World) (mg : Str → Option Value) (fa : Addr) (h : Heap), YP w h → h.Ns mainGlobals mg → mg d.name = some (.ref fa) → ∃ K : PySem.W.Frag, K.In h ∧ ∃ fd : FuncData,
      (∀ (s : Shared) (u : Value), BindsTo s fd ⟨[u], []⟩ [(x, u)]) ∧ ∀ base : Heap, K.In base → base.Ns mainGlobals mg → FnOk l.prog w K mg base (L2N.CX l.prog w) k fa fd [x] (spLaw K)) :
    PySem.W.WalkO q loose XP YP l.row.toRowW d [] (fun f vs => PySem.call f vs) := by
  refine _root_.Att.attach_call hn hdf fun w s₀ s₁ mg mb fa o pm cd doc a vs ns G Y ho hd hcd hmg hobj hints hlen hg => ?_
  obtain ⟨K, X, fd, hb, ok⟩ := F w mg fa _ Y G.T.g hmg
  refine law_call X G.T.g G.T.b G.T.builtins G.T.nolimit hg hobj hints (Nat.le_trans hlen (by decide)) hr ok hb (fun H _ hS => ⟨a, ns, rfl, hS, hlen, fun _ => rfl⟩) ?_
  exact fun H e s' hx => law_cx H s₁ e s' hx
end Dn

namespace Dn
open PySem L2
open PySem.Spec PyProof.Rows
open Evl (Ex)

/-! ## 61. try with several clauses, each with a name or without one -/
/-- a clause: the class it asks for, the slot of its name, what its suite does -/
abbrev Clz := Value × Option Nat × (Addr → Value → Option Addr → TS)
def endC (D : Ends) : Option Nat → Ends
  | some i => { nx := fun σ H => D.nx (σ.set i none) H, rt := D.rt, bk := fun σ H => D.bk (σ.set i none) H, ct := fun σ H => D.ct (σ.set i none) H }
  | none => D
def slotC (a : Addr) (σ : L2.St) : Option Nat → L2.St
  | some i => σ.set i (some (.ref a))
  | none => σ
def wCl (K : PySem.W.Frag) (W : WX) (D : Ends) : List Clz → WX
  | [] => W
  | cl :: r => fun cls d σ H => ∃ b, PySem.W.exmOne K cls cl.1 = some b ∧ (b = true → ∀ a, H a = none → cl.2.2 a cls d (endC D cl.2.1) (slotC a σ cl.2.1) H) ∧ (b = false → wCl K W D r cls d σ H)
inductive ClsOk (X : Cx) : List ExceptHandler → List Clz → Prop
  | nil : ClsOk X [] []
  | named {x n : Str} {c : Value} {i : Nat} {ts : Addr → Value → Option Addr → TS} {b0 : Stmt} {su : List Stmt} {np ps : Pos} {hds : List ExceptHandler} {l : List Clz} (hi : X.N[i]? = some n) (hln : X.env.kindOf n = some .local) (hc : Names X x c)
      (hsu : ∀ (a : Addr) (oe : Obj) (cls : Value) (d : Option Addr) (pn : List (Addr × Obj)), L2N.Zn cls d oe → (∃ vs, oe.data = .fields vs) → PSs (X.suite a ((a, oe) :: pn)) (b0 :: su) (ts a cls d)) (r : ClsOk X hds l) :
      ClsOk X (.ExceptHandler (some (.Name x np)) (some n) (b0 :: su) ps :: hds) ((c, some i, ts) :: l)
  | plain {x : Str} {c : Value} {ts : Addr → Value → Option Addr → TS} {b0 : Stmt} {su : List Stmt} {np ps : Pos} {hds : List ExceptHandler} {l : List Clz} (hc : Names X x c)
      (hsu : ∀ (a : Addr) (oe : Obj) (cls : Value) (d : Option Addr) (pn : List (Addr × Obj)), L2N.Zn cls d oe → (∃ vs, oe.data = .fields vs) → PSs (X.suite a ((a, oe) :: pn)) (b0 :: su) (ts a cls d)) (r : ClsOk X hds l) :
      ClsOk X (.ExceptHandler (some (.Name x np)) none (b0 :: su) ps :: hds) ((c, none, ts) :: l)
/-- an error of the body, on the ground of the frame that looks for its clause -/
structure Ctc (X : Cx) (pins : List (Addr × Obj)) (a : Addr) (σ : L2.St) (H : Hp) (cls : Value) (d : Option Addr) (s : Shared) : Prop where
  ex : ∃ (B : Heap) (sI : Shared), Inv X pins σ H sI ∧ (∀ b o, sI.heap.get? b = some o → b ∉ frs X.stack → B.get? b = some o) ∧ sI.heap.UpToSlots s.heap ∧ HandSPX.FlyingZ B (X.env :: X.outer) a (L2N.Zn cls d) s.heap ∧ s.os = sI.os ∧ AllBare s.gens
  na : H a = none
section
variable {X : Cx} {pins : List (Addr × Obj)} {a : Addr} {σ : L2.St} {H : Hp} {cls : Value} {d : Option Addr} {s : Shared} {D : Ends} {W : WX}
/-- the state there keeps the body's word, the error stands in it -/
theorem Ctc.at (t : Ctc X pins a σ H cls d s) (hs : X.stack = X.env :: X.outer) (hf : X.env.frame = some X.env.locals) :
    Inv X pins σ H s ∧ ∃ oe vs, s.heap.get? a = some oe ∧ L2N.Zn cls d oe ∧ oe.data = .fields vs ∧ Inv (X.suite a ((a, oe) :: (X.pn ++ pins))) [] σ H s := by
  obtain ⟨⟨B, sI, J, nb, up, fl, os, ag⟩, na⟩ := t
  have J3 : Inv X pins σ H s := by
    have := J.landed (s' := s) nb fl.1 up os ag
    exact this
  obtain ⟨oe, vs, he, hz, hd⟩ := fl.there
  have nfr : a ∉ frs (X.env :: X.outer) := fun hm => by
    obtain ⟨_, o', e', hnf⟩ := fl.2.2.1.mem hm
    rw [he] at e'
    cases e'
    exact hnf _ hd
  have nL : a ≠ X.env.locals := fun z => nfr (List.mem_filterMap.mpr ⟨X.env, List.mem_cons_self, by rw [hf, z]⟩)
  have nF : a ∉ X.fs := fun hm => by
    obtain ⟨e, h1, q⟩ := List.mem_filterMap.mp hm
    exact nfr (List.mem_filterMap.mpr ⟨e, List.mem_cons_of_mem _ h1, q⟩)
  exact ⟨J3, oe, vs, he, hz, hd, J3.suite he hd na nL nF⟩
/-- a step on the ground -/
theorem Ctc.again (t : Ctc X pins a σ H cls d s) {M : Model} {A : Around} {E : Value → Shared → Prop} {Q : Unit → Shared → Prop} (h : ∀ s', Ctc X pins a σ H cls d s' → Q () s') : wpAny M A (setFlight (.ref a) none) Q E s := by
  obtain ⟨⟨B, sI, J, nb, up, fl, os, ag⟩, na⟩ := t
  exact HandSPX.lands_againZ fl fun h4 fl4 up4 => h _ ⟨⟨B, sI, J, nb, up.trans up4, fl4, os, ag⟩, na⟩
/-- the class's name, read there -/
theorem Ctc.test (t : Ctc X pins a σ H cls d s) (hs : X.stack = X.env :: X.outer) (hf : X.env.frame = some X.env.locals) {x : Str} {c : Value} {np : Pos} (hc : Names X x c) {Q : Value → Shared → Prop} {E : Value → Shared → Prop} (q : Q c s) :
    wpAny (model X.prog X.w) (X.A.mark (some (.ref a))) (eval (.Name x np) X.env) Q E s := by
  obtain ⟨_, oe, vs, he, hz, hd, S⟩ := t.at hs hf
  obtain ⟨hg, hdbg, hm | ⟨hm, hv, hnn⟩⟩ := hc
  · exact ld_glob (X := X.suite a ((a, oe) :: (X.pn ++ pins))) S hg hm q hdbg
  · exact ld_blt (X := X.suite a ((a, oe) :: (X.pn ++ pins))) S hg hm hv q hnn hdbg
theorem Ctc.isA (t : Ctc X pins a σ H cls d s) (hs : X.stack = X.env :: X.outer) (hf : X.env.frame = some X.env.locals) {c : Value} {b : Bool} (hb : PySem.W.exmOne X.K cls c = some b) : PySem.W.Looks (model X.prog X.w) s.heap (excMatches (.ref a) c) b := by
  obtain ⟨J, oe, vs, he, hz, hd, S⟩ := t.at hs hf
  exact PySem.W.exm_one (M := model X.prog X.w) J.kIn (fun A Q E s k q => wpAny_typeOf_ref (k _ _ he) (by rw [hz.1]; exact q)) hb
theorem cl_go (hs : X.stack = X.env :: X.outer) (hf : X.env.frame = some X.env.locals) (hN : X.N.Nodup) (ok : X.Ok) (tk : L2N.Takes X W) {hds : List ExceptHandler} {l : List Clz} (hk : ClsOk X hds l) :
    ∀ {s : Shared}, Ctc X pins a σ H cls d s → wCl X.K W D l cls d σ H → wpAny (model X.prog X.w) X.A (handleBy (.ref a) X.env hds) (SP X pins D) X.xe s := by
  have fin : ∀ {oe : Obj} {i : Option Nat} {D2 : Ends} {f : Flow} {s6 : Shared}, D2 = D → SP (X.suite a ((a, oe) :: (X.pn ++ pins))) [] D2 f s6 → SP X pins D f s6 := fun {oe i D2 f s6} e h => by
    subst e
    cases f with
    | ret u => obtain ⟨v6, σ6, H6, S6, r6, q6⟩ := h; exact ⟨_, _, _, S6.unsuite ok, r6, q6⟩
    | next => obtain ⟨σ6, H6, S6, q6⟩ := h; exact ⟨_, _, S6.unsuite ok, q6⟩
    | brk => obtain ⟨σ6, H6, S6, q6⟩ := h; exact ⟨_, _, S6.unsuite ok, q6⟩
    | cont => obtain ⟨σ6, H6, S6, q6⟩ := h; exact ⟨_, _, S6.unsuite ok, q6⟩
  induction hk with
  | nil =>
    intro s t w
    refine wpAny_handleBy_nil ?_
    obtain ⟨⟨B, sI, J, nb, up, fl, os, ag⟩, na⟩ := t
    obtain ⟨k1, k2, k3, oe, vs, T, oT, ts', he, hz, hd, h1, hr⟩ := id fl
    have up' : wpAny (model X.prog X.w) X.A (setFlight (.ref a) X.env.frame) (fun _ s4 => wpAny (model X.prog X.w) X.A (throw (.ref a) : Sem Flow) (SP X pins D) X.xe s4) X.xe s := by
      rw [hf]
      exact HandSPX.setFlight_upZ fl fun h4 hh4 up4 => wpAny_throw (tk _ _ ⟨a, B, sI, pins, σ, H, cls, d, rfl, J, nb, up.trans up4, .inr (.inr (by rw [hs]; exact hh4)), na, os, ag, w⟩)
    unfold PySem.passOn
    refine wpAny_bind (wpAny_field he hd h1 ?_)
    rw [if_neg (show ¬ ((Value.ref T == Value.none) = true) from by simp)]
    first | exact wpAny_bind (wpAny_pure (wpAny_bind up')) | exact wpAny_bind up'
  | @named x n c i ts b0 su np ps hds2 l2 hi hln hc hsu r ih =>
    intro s t w
    obtain ⟨b, hb, hyes, hno⟩ := w
    refine wpAny_handleBy_cons (codeAny_handlers_test (t.test hs hf hc ((t.isA hs hf hb).here ?_))) (by intro q; cases q)
    cases b with
    | false => exact ih t (hno rfl)
    | true =>
      refine codeAny_handlers_suite_as (t.again fun s4 t4 => ?_)
      obtain ⟨_, oe, vs, he, hz, hd, S4⟩ := t4.at hs hf
      refine store_ok (X := X.suite a ((a, oe) :: (X.pn ++ pins))) (v := .ref a) S4 hN hi (.inl hln) rfl (fun s5 S5 => ?_) (.inr hln)
      refine wpAny_mono ((hsu a oe cls d (X.pn ++ pins) hz ⟨_, hd⟩).run [] s5 _ H _ S5 (hyes rfl a t.na)) (fun f s6 hsp => ?_) (fun _ _ z => z.elim)
      have gone : ∀ {σ6 : L2.St} {H6 : Hp} {Q : Shared → Prop}, Inv (X.suite a ((a, oe) :: (X.pn ++ pins))) [] σ6 H6 s6 → (∀ s7, Inv X pins (σ6.set i none) H6 s7 → Q s7) →
          wpAny (model X.prog X.w) X.A (do bindName X.env n .none; unbindBehindTheSuite X.env n ps) (fun _ s7 => Q s7) X.xe s6 := fun S6 hq => gone_ok (S6.unsuite ok) hN hi hln hq
      cases f with
      | ret u => obtain ⟨v6, σ6, H6, S6, r6, q6⟩ := hsp; exact gone S6 fun s7 J7 => ⟨_, _, _, J7, r6, q6⟩
      | next => obtain ⟨σ6, H6, S6, q6⟩ := hsp; exact gone S6 fun s7 J7 => ⟨_, _, J7, q6⟩
      | brk => obtain ⟨σ6, H6, S6, q6⟩ := hsp; exact gone S6 fun s7 J7 => ⟨_, _, J7, q6⟩
      | cont => obtain ⟨σ6, H6, S6, q6⟩ := hsp; exact gone S6 fun s7 J7 => ⟨_, _, J7, q6⟩
  | @plain x c ts b0 su np ps hds2 l2 hc hsu r ih =>
    intro s t w
    obtain ⟨b, hb, hyes, hno⟩ := w
    refine wpAny_handleBy_cons (codeAny_handlers_test (t.test hs hf hc ((t.isA hs hf hb).here ?_))) (by intro q; cases q)
    cases b with
    | false => exact ih t (hno rfl)
    | true =>
      refine codeAny_handlers_suite (t.again fun s4 t4 => ?_)
      obtain ⟨_, oe, vs, he, hz, hd, S4⟩ := t4.at hs hf
      exact wpAny_mono ((hsu a oe cls d (X.pn ++ pins) hz ⟨_, hd⟩).run [] _ _ H _ S4 (hyes rfl a t.na)) (fun f s6 hsp => fin (i := none) rfl hsp) (fun _ _ z => z.elim)
end
section
variable {X : Cx} {body : List Stmt} {h0 : ExceptHandler} {hds : List ExceptHandler} {l : List Clz} {pos : Pos} {tb : WX → TS} {W : WX}
theorem ps_try_cl (hs : X.stack = X.env :: X.outer) (hf : X.env.frame = some X.env.locals) (hN : X.N.Nodup) (tk : L2N.Takes X W)
    (hb : ∀ (W : WX) (pn : List (Addr × Obj)) (xe : Value → Shared → Prop), L2N.Takes (X.tr pn xe) W → PassesOwn (model X.prog X.w) X.A X.env xe → PSs (X.tr pn xe) body (tb W)) (hh : ClsOk X (h0 :: hds) l) :
    PS X (.Try body (h0 :: hds) [] [] pos) (fun D σ H => tb (wCl X.K W D l) D σ H) := by
  refine ⟨fun pins s σ H D I h => ?_⟩
  have ok := I.ok
  have hfr : X.A.frames = some (X.env :: X.outer) := by rw [ok.frames, hs]
  refine wpAny_Try_except (wpAny_mono ((hb (wCl X.K W D l) (X.pn ++ pins) (fun e s1 => wpAny (model X.prog X.w) X.A (noteFrame e X.env) (fun _ s2 => wpAny (model X.prog X.w) X.A (setFlight e none) (fun _ s3 =>
    wpAny (model X.prog X.w) X.A (handleBy e X.env (h0 :: hds)) (SP X pins D) X.xe s3) X.xe s2) X.xe s1) (fun u s' xx => ?_) PassesOwn.looking).run [] s σ H D (I.toTry _) h) (fun f s1 hsp => ?_) fun e s1 he => he)
  · obtain ⟨a, B, sI, pins', σ', H', cls, d, rfl, J', nb, up, sky, na, os, ag, w⟩ := xx
    have sky' : Sky B (X.env :: X.outer) a (L2N.Zn cls d) X.env.locals s'.heap := by rw [← hs]; exact sky
    exact L2N.Sky.land L2N.Zn.steady hfr hf sky' fun h3 fl3 up3 => cl_go hs hf hN ok tk hh ⟨⟨B, sI, J'.ofTry ok, nb, up.trans up3, fl3, os, ag⟩, na⟩ w
  · cases f with
    | ret u => obtain ⟨v, σ', H', J', r, q⟩ := hsp; exact ⟨v, σ', H', J'.ofTry ok, r, q⟩
    | next => obtain ⟨σ', H', J', q⟩ := hsp; exact wpAny_execs_nil ⟨σ', H', J'.ofTry ok, q⟩
    | brk => obtain ⟨σ', H', J', q⟩ := hsp; exact ⟨σ', H', J'.ofTry ok, q⟩
    | cont => obtain ⟨σ', H', J', q⟩ := hsp; exact ⟨σ', H', J'.ofTry ok, q⟩
end
/-! the slots' side -/
/-- a clause of data: which classes it takes (none: not known), the slot of its name, its suite -/
abbrev Clm := (Str → Option Bool) × Option Nat × (Addr → Addr → Exn → M Fl)
def keepR : Option (Ro Fl) → Option (Ro Fl)
  | some (.ok fl e) => some (.ok fl e)
  | _ => none
def SuitsO : Option Nat → (Addr → Addr → Exn → M Fl) → Exn → Sl → Ro Fl → Prop
  | some i => Suits i
  | none => fun h x e r => ∀ a d, keepR (h a d x e) = some r
open Classical in
noncomputable def hdlM : List Clm → Exn → Sl → Option (Ro Fl)
  | [], x, e => some (.ex x e)
  | (c, i, h) :: r, x, e => match c x.cls with
    | some true => if hh : ∃ r, SuitsO i h x e r then some hh.choose else none
    | some false => hdlM r x e
    | none => none
noncomputable def sTryM (body : M Fl) (l : List Clm) : M Fl := fun e => match body e with
  | some (.ex x e') => hdlM l x e'
  | r => r
inductive ClmOk (X : Cx) (ks : List Nat) : List ExceptHandler → List Clm → Prop
  | nil : ClmOk X ks [] []
  | named {x n : Str} {cv : Value} {c : Str → Option Bool} {i : Nat} {h : Addr → Addr → Exn → M Fl} {b0 : Stmt} {su : List Stmt} {np ps : Pos} {hds : List ExceptHandler} {l : List Clm} (hi : X.N[i]? = some n) (hln : X.env.kindOf n = some .local) (hk : i ∉ ks) (hc : Names X x cv)
      (ht : ∀ y b C, c y = some b → X.mg y = some (.ref C) → PySem.W.exmOne X.K (.ref C) cv = some b)
      (hsu : ∀ (a : Addr) (oe : Obj) (C dd : Addr) (y : Exn) (pn : List (Addr × Obj)), X.mg y.cls = some (.ref C) → L2N.Zn (.ref C) (some dd) oe → (∃ vs, oe.data = .fields vs) → PSs (X.suite a ((a, oe) :: pn)) (b0 :: su) (tS X.K X.mg (fun _ _ _ _ => False) ks (h a dd y)))
      (r : ClmOk X ks hds l) : ClmOk X ks (.ExceptHandler (some (.Name x np)) (some n) (b0 :: su) ps :: hds) ((c, some i, h) :: l)
  | plain {x : Str} {cv : Value} {c : Str → Option Bool} {h : Addr → Addr → Exn → M Fl} {b0 : Stmt} {su : List Stmt} {np ps : Pos} {hds : List ExceptHandler} {l : List Clm} (hc : Names X x cv)
      (ht : ∀ y b C, c y = some b → X.mg y = some (.ref C) → PySem.W.exmOne X.K (.ref C) cv = some b)
      (hsu : ∀ (a : Addr) (oe : Obj) (C dd : Addr) (y : Exn) (pn : List (Addr × Obj)), X.mg y.cls = some (.ref C) → L2N.Zn (.ref C) (some dd) oe → (∃ vs, oe.data = .fields vs) → PSs (X.suite a ((a, oe) :: pn)) (b0 :: su) (tS X.K X.mg (fun _ _ _ _ => False) ks (h a dd y)))
      (r : ClmOk X ks hds l) : ClmOk X ks (.ExceptHandler (some (.Name x np)) none (b0 :: su) ps :: hds) ((c, none, h) :: l)
section
variable {X : Cx} {W : WX} {ks : List Nat}
/-- what a suite of data wishes -/
def tsM (X : Cx) (ks : List Nat) (h : Addr → Addr → Exn → M Fl) : Addr → Value → Option Addr → TS := fun a cls d D σ H => ∃ (C dd : Addr) (y : Exn), cls = .ref C ∧ d = some dd ∧ X.mg y.cls = some (.ref C) ∧ tS X.K X.mg (fun _ _ _ _ => False) ks (h a dd y) D σ H
/-- the clauses of a row, as the slots' side has them: i a slot's number, or none -/
inductive ClRel (X : Cx) (ks : List Nat) : List Clm → List Clz → Prop
  | nil : ClRel X ks [] []
  | cons {c : Str → Option Bool} {i : Option Nat} {h : Addr → Addr → Exn → M Fl} {cv : Value} {l : List Clm} {l' : List Clz} (ht : ∀ y b C, c y = some b → X.mg y = some (.ref C) → PySem.W.exmOne X.K (.ref C) cv = some b)
      (hi : ∀ j, i = some j → j ∉ ks) (r : ClRel X ks l l') : ClRel X ks ((c, i, h) :: l) ((cv, i, tsM X ks h) :: l')
theorem ClmOk.rel {hds : List ExceptHandler} {l : List Clm} (h : ClmOk X ks hds l) : ∃ l', ClRel X ks l l' ∧ ClsOk X hds l' := by
  induction h with
  | nil => exact ⟨[], .nil, .nil⟩
  | named hi hln hk hc ht hsu r ih =>
    obtain ⟨l', r1, r2⟩ := ih
    refine ⟨_, .cons ht (fun j e => by cases e; exact hk) r1, .named hi hln hc (fun a oe cls d pn hz hv => ⟨fun pins s σ H D I q => ?_⟩) r2⟩
    obtain ⟨C, dd, y, rfl, rfl, hC, q⟩ := q
    exact (hsu a oe C dd y pn hC hz hv).run pins s σ H D I q
  | plain hc ht hsu r ih =>
    obtain ⟨l', r1, r2⟩ := ih
    refine ⟨_, .cons ht (fun j e => by cases e) r1, .plain hc (fun a oe cls d pn hz hv => ⟨fun pins s σ H D I q => ?_⟩) r2⟩
    obtain ⟨C, dd, y, rfl, rfl, hC, q⟩ := q
    exact (hsu a oe C dd y pn hC hz hv).run pins s σ H D I q
theorem hdl_go {l : List Clm} {l' : List Clz} (hr : ClRel X ks l l') {D : Ends} {B H : Hp} {S : Nat → Addr → Prop} {σ : L2.St} :
    ∀ {y : Exn} {e' : Sl}, Post (hdlM l y e') (Nd X.K D ks B H S σ) (ExS X.K X.mg W ks B H S σ) → ExS X.K X.mg (wCl X.K W D l') ks B H S σ y e' := by
  induction hr with
  | nil => intro y e' q; exact q
  | @cons c i h cv l l' ht hi r ih =>
    intro y e' q C d fs σ' B' H' S' hC r' hd hx hn k' f'
    unfold hdlM at q
    cases hcy : c y.cls with
    | none => rw [hcy] at q; exact q.elim
    | some b =>
      rw [hcy] at q
      cases b with
      | false => exact ⟨false, ht _ _ _ hcy hC, fun z => (nomatch z), fun _ => ih q C d fs σ' B' H' S' hC r' hd hx hn k' f'⟩
      | true =>
        refine ⟨true, ht _ _ _ hcy hC, fun _ a ha => ⟨C, d, y, rfl, rfl, hC, ?_⟩, fun z => (nomatch z)⟩
        dsimp only at q
        by_cases hh : ∃ r, SuitsO i h y e' r
        · rw [dif_pos hh] at q
          have sp := hh.choose_spec
          generalize hh.choose = rr at q sp
          have hB : Ex B' (upd B' d (.xd fs)) := fun b u z => by
            by_cases hb : b = d
            · subst hb; rw [upd_same]; exact (r'.ex _ _ z).symm.trans hd |>.symm ▸ rfl
            · rw [upd_ne hb]; exact z
          have hH : Ex (upd B' d (.xd fs)) H' := fun b u z => by
            by_cases hb : b = d
            · subst hb; rw [upd_same] at z; cases z; exact hd
            · rw [upd_ne hb] at z; exact r'.ex _ _ z
          have r1 : Rp X.K (upd B' d (.xd fs)) H' σ' e' (fun j a => S' j a ∧ a ≠ d) := (r'.less hd).bgrow hB hH fun j b z => by
            rw [upd_ne z.2]; exact (r'.own j b z.1).1
          have vl : Vl X.K (upd B' d (.xd fs)) H' σ' e' (fun j a => S' j a ∧ a ≠ d) (.ref a) (.exn a d y) noS :=
            ⟨r1, ⟨rfl, ⟨fs, upd_same, hx.mono hB⟩, fun _ z => z⟩, own_no, fun _ z => z.elim⟩
          have fB : Fr B H (tot S) (upd B' d (.xd fs)) H' (tot (fun j a => S' j a ∧ a ≠ d)) := by
            refine ⟨f'.b.trans hB, f'.k, fun b z => f'.n b ?_, fun b u z => ?_, f'.a⟩
            · obtain ⟨j, z⟩ := z
              exact ⟨j, z.1⟩
            · by_cases hb : b = d
              · subst hb; exact .inr (.inr hn)
              · rw [upd_ne hb] at z; exact f'.c _ _ z
          cases i with
          | some i =>
            have hk := hi i rfl
            have sp2 : wipeR i (h a d y (e'.set i (some (.exn a d y)))) = some rr := sp a d
            have f2 : Fr B H (tot S) (upd B' d (.xd fs)) H' (tot (fun j => if j = i then (if i < e'.length then noS else noS) else fun a => S' j a ∧ a ≠ d)) := fB.imp (fun _ z => z) fun b z => by
              rcases tot_set z with z | ⟨j, z⟩
              · exact z.elim
              · exact ⟨j, z⟩
            have k2 : Kp ks σ (σ'.set i (some (.ref a))) := k'.trans (Kp.set hk)
            refine ⟨_, _, _, vl.set i, ?_⟩
            change Post (h a d y (e'.set i (some (.exn a d y)))) _ _
            cases hq : h a d y (e'.set i (some (.exn a d y))) with
            | none => rw [hq] at sp2; cases sp2
            | some ro2 =>
              rw [hq] at sp2
              cases ro2 with
              | ex _ _ => cases sp2
              | ok fl e3 =>
                cases sp2
                have q' : Nd X.K D ks B H S σ fl (e3.set i none) := q
                cases fl with
                | next => exact fun σ4 B4 H4 S4 r4 k4 f4 => q' (σ4.set i none) B4 H4 _ (r4.gone i) ((k2.trans k4).trans (Kp.set hk)) ((f2.trans f4).imp (fun _ z => z) fun _ z => tot_forget z)
                | brk => exact fun σ4 B4 H4 S4 r4 k4 f4 => q' (σ4.set i none) B4 H4 _ (r4.gone i) ((k2.trans k4).trans (Kp.set hk)) ((f2.trans f4).imp (fun _ z => z) fun _ z => tot_forget z)
                | cnt => exact fun σ4 B4 H4 S4 r4 k4 f4 => q' (σ4.set i none) B4 H4 _ (r4.gone i) ((k2.trans k4).trans (Kp.set hk)) ((f2.trans f4).imp (fun _ z => z) fun _ z => tot_forget z)
                | ret o => exact fun v σ4 B4 H4 S4 T vl4 k4 f4 => q' v (σ4.set i none) B4 H4 _ T (vl4.gone i) ((k2.trans k4).trans (Kp.set hk)) ((f2.trans f4).imp (fun _ z => z) fun _ z => z.elim .inl fun z => .inr (tot_forget z))
          | none =>
            have sp2 : keepR (h a d y e') = some rr := sp a d
            refine ⟨_, e', _, r1, ?_⟩
            change Post (h a d y e') _ _
            cases hq : h a d y e' with
            | none => rw [hq] at sp2; cases sp2
            | some ro2 =>
              rw [hq] at sp2
              cases ro2 with
              | ex _ _ => cases sp2
              | ok fl e3 =>
                cases sp2
                have q' : Nd X.K D ks B H S σ fl e3 := q
                cases fl with
                | next => exact fun σ4 B4 H4 S4 r4 k4 f4 => q' σ4 B4 H4 _ r4 (k'.trans k4) (fB.trans f4)
                | brk => exact fun σ4 B4 H4 S4 r4 k4 f4 => q' σ4 B4 H4 _ r4 (k'.trans k4) (fB.trans f4)
                | cnt => exact fun σ4 B4 H4 S4 r4 k4 f4 => q' σ4 B4 H4 _ r4 (k'.trans k4) (fB.trans f4)
                | ret o => exact fun v σ4 B4 H4 S4 T vl4 k4 f4 => q' v σ4 B4 H4 _ T vl4 (k'.trans k4) (fB.trans f4)
        · rw [dif_neg hh] at q; exact q.elim
theorem s_tryM {body : List Stmt} {h0 : ExceptHandler} {hds : List ExceptHandler} {l : List Clm} {pos : Pos} {gb : M Fl} (hN : X.N.Nodup) (tk : L2N.Takes X W)
    (hb : ∀ (W : WX) (pn : List (Addr × Obj)) (xe : Value → Shared → Prop), L2N.Takes (X.tr pn xe) W → PassesOwn (model X.prog X.w) X.A X.env xe → PSs (X.tr pn xe) body (tS X.K X.mg W ks gb)) (hh : ClmOk X ks (h0 :: hds) l)
    (hs : X.stack = X.env :: X.outer := by rfl) (hf : X.env.frame = some X.env.locals := by rfl) : PS X (.Try body (h0 :: hds) [] [] pos) (tS X.K X.mg W ks (sTryM gb l)) := by
  obtain ⟨l', hr, hc⟩ := hh.rel
  refine ps_imp (ps_try_cl (W := W) (tb := fun W => tS X.K X.mg W ks gb) hs hf hN tk hb hc) fun D σ H q => ?_
  obtain ⟨B, e, S, r, q⟩ := q
  refine ⟨B, e, S, r, ?_⟩
  change Post (sTryM gb l e) (Nd X.K D ks B H S σ) (ExS X.K X.mg W ks B H S σ) at q
  change Post (gb e) (Nd X.K D ks B H S σ) (ExS X.K X.mg _ ks B H S σ)
  unfold sTryM at q
  cases hg : gb e with
  | none => rw [hg] at q; exact q.elim
  | some ro =>
    rw [hg] at q
    cases ro with
    | ok fl e' => exact q
    | ex y e' => exact hdl_go hr q
end
end Dn

namespace Dn
open PySem L2

/-! ## 62. Several clauses: by tables, evaluated -/
section
variable {X : Cx} {ks : List Nat} {i : Nat} {x n : Str} {su : List Stmt} {b0 : Stmt} {np ps : Pos} {h : Addr → Addr → Exn → M Fl} {t : List (Str × Bool)} {hds : List ExceptHandler} {l : List Clm}
theorem cm_named (hi : X.N[i]? = some n) (E : Ec X.K X.mg t x)
    (hsu : ∀ (a : Addr) (oe : Obj) (C dd : Addr) (y : Exn) (pn : List (Addr × Obj)), X.mg y.cls = some (.ref C) → L2N.Zn (.ref C) (some dd) oe → (∃ vs, oe.data = .fields vs) → PSs (X.suite a ((a, oe) :: pn)) (b0 :: su) (tS X.K X.mg (fun _ _ _ _ => False) ks (h a dd y)))
    (r : ClmOk X ks hds l) (hk : i ∉ ks := by decide) (hln : X.env.kindOf n = some .local := by rfl) (hg : Gl X x := by rfl) (hdb : (x == ("__debug__" : Str)) = false := by decide) :
    ClmOk X ks (.ExceptHandler (some (.Name x np)) (some n) (b0 :: su) ps :: hds) ((isaL t, some i, h) :: l) := by
  obtain ⟨C, hm, hx⟩ := E.ex
  exact .named hi hln hk ⟨hg, hdb, .inl hm⟩ (fun y b C h => hx y b h C) hsu r
theorem cm_plain (E : Ec X.K X.mg t x)
    (hsu : ∀ (a : Addr) (oe : Obj) (C dd : Addr) (y : Exn) (pn : List (Addr × Obj)), X.mg y.cls = some (.ref C) → L2N.Zn (.ref C) (some dd) oe → (∃ vs, oe.data = .fields vs) → PSs (X.suite a ((a, oe) :: pn)) (b0 :: su) (tS X.K X.mg (fun _ _ _ _ => False) ks (h a dd y)))
    (r : ClmOk X ks hds l) (hg : Gl X x := by rfl) (hdb : (x == ("__debug__" : Str)) = false := by decide) :
    ClmOk X ks (.ExceptHandler (some (.Name x np)) none (b0 :: su) ps :: hds) ((isaL t, none, h) :: l) := by
  obtain ⟨C, hm, hx⟩ := E.ex
  exact .plain ⟨hg, hdb, .inl hm⟩ (fun y b C h => hx y b h C) hsu r
end
def HandM [Q : PostE Fl] [X : PostE Exn] : List Clm → Exn → Sl → Prop
  | [], x, e => X.run x e
  | (c, i, h) :: r, x, e => match c x.cls with
    | some true => ∃ r, SuitsO i h x e r ∧ @EvC _ (some r) Q X
    | some false => HandM r x e
    | none => False
theorem SuitsO.one {i : Option Nat} {h : Addr → Addr → Exn → M Fl} {x : Exn} {e : Sl} {r r' : Ro Fl} (a : SuitsO i h x e r) (b : SuitsO i h x e r') : r = r' := by
  cases i with
  | some i => exact Suits.one a b
  | none =>
    have := ((show keepR (h 0 0 x e) = some r from a 0 0).symm.trans (b 0 0))
    injection this
theorem Ev_hdlM {Q : PostE Fl} {X : PostE Exn} {x : Exn} {e : Sl} : ∀ l : List Clm, @EvC _ (hdlM l x e) Q X = @HandM Q X l x e
  | [] => rfl
  | (c, i, h) :: r => by
    unfold hdlM HandM
    cases c x.cls with
    | none => rfl
    | some t =>
      cases t with
      | false => exact Ev_hdlM r
      | true =>
        dsimp only
        refine propext ⟨fun z => ?_, fun ⟨r, s, z⟩ => ?_⟩
        · by_cases hh : ∃ r, SuitsO i h x e r
          · rw [dif_pos hh] at z
            exact ⟨_, hh.choose_spec, z⟩
          · rw [dif_neg hh] at z; exact z.elim
        · have hh : ∃ r, SuitsO i h x e r := ⟨r, s⟩
          rw [dif_pos hh, hh.choose_spec.one s]
          exact z
theorem Ev_sTryM {l : List Clm} {b : M Fl} {e : Sl} {Q : PostE Fl} {X : PostE Exn} : @EvC _ (sTryM b l e) Q X = @EvC _ (b e) Q ⟨fun x e' => @HandM Q X l x e'⟩ := by
  unfold sTryM
  cases b e with
  | none => rfl
  | some r =>
    cases r with
    | ok a e' => rfl
    | ex x e' => exact Ev_hdlM l
def HandU (h : Addr → Addr → Exn → M Fl) [Q : PostE Fl] [X : PostE Exn] (x : Exn) (e : Sl) : Prop := ∃ r, SuitsO none h x e r ∧ @EvC _ (some r) Q X
section
variable {c : Str → Option Bool} {i : Nat} {h : Addr → Addr → Exn → M Fl} {x : Str} {fs : List (Str × D)} {e : Sl} {Q : PostE Fl} {X : PostE Exn} {l : List Clm} {oi : Option Nat}
theorem HandM_n : @HandM Q X [] ⟨x, fs⟩ e = X.run ⟨x, fs⟩ e := rfl
theorem HandM_t (hc : c x = some true) : @HandM Q X ((c, some i, h) :: l) ⟨x, fs⟩ e = @HandT i h Q X ⟨x, fs⟩ e := by
  unfold HandM HandT
  dsimp only
  rw [hc]
  rfl
theorem HandM_u (hc : c x = some true) : @HandM Q X ((c, none, h) :: l) ⟨x, fs⟩ e = @HandU h Q X ⟨x, fs⟩ e := by
  unfold HandM HandU
  dsimp only
  rw [hc]
theorem HandM_f (hc : c x = some false) : @HandM Q X ((c, oi, h) :: l) ⟨x, fs⟩ e = @HandM Q X l ⟨x, fs⟩ e := by
  conv => lhs; unfold HandM
  dsimp only
  rw [hc]
end
theorem HandU.of {h : Addr → Addr → Exn → M Fl} {x : Exn} {e : Sl} {Q : PostE Fl} {X : PostE Exn} (fl : Fl) (E : Sl)
    (hs : ∀ a d, Ev (h a d x e) (fun fl' e' => fl' = fl ∧ e' = E) (fun _ _ => False)) (q : Q.run fl E) : @HandU h Q X x e := by
  refine ⟨.ok fl E, fun a d => ?_, q⟩
  obtain ⟨fl', e', h1, rfl, rfl⟩ := (hs a d).get
  rw [h1]; rfl
end Dn

namespace Dn
open PySem L2
open PySem.Spec PyProof.Rows
open Evl (Ex)

/-! ## 63. d.setdefault(k, v), d a dict of one's own whose keys are pairs -/
section
variable {X : Cx} {pins : List (Addr × Obj)} {σ : L2.St} {H : Hp} {s : Shared} {a b : Addr} {r : Value} {d : V} {k : List L2.Key} {A : Around} {E : Value → Shared → Prop} {kvs : List (List L2.Key × V)} {Q : Value → Shared → Prop}
theorem d_setdT (hu : A.units + 1 < cLine) (I : Inv X pins σ H s) (e : H a = some (.dT kvs)) (eb : H b = some (.tup (k.map kV))) (rd : RelV d r) (hl : kvs.length < sizeLine)
    (h1 : ∀ v, valV kvs k = some v → ∀ (w' : Value) (s' : Shared), Inv X pins σ H s' → RelV v w' → Q w' s')
    (h2 : valV kvs k = none → ∀ (w' : Value) (s' : Shared), Inv X pins σ (L2.upd H a (.dT (putK kvs k d))) s' → RelV d w' → Q w' s') : wpAny (model X.prog X.w) A (call (.builtin "dict.setdefault") [.ref a, .ref b, r]) Q E s := by
  obtain ⟨z, hd, xs, rel, dd⟩ := dt_of I.hok e
  have hz : xs.length ≤ sizeLine := by rw [← Paired.length rel]; exact z
  refine call_setdefault_heap (hsz := hz) (tupleKind_room_in1 hu) (key_of I.hok eb) hd dd (fun p hp => ?_) fun hn h' dd' hs => ?_
  · have q := rel.val k
    rw [hp] at q
    cases q0 : valV kvs k with
    | none => rw [q0] at q; exact (show False from q).elim
    | some v0 => rw [q0] at q; exact h1 v0 q0 _ _ (I.tok _) q
  · have q := rel.val k
    rw [hn] at q
    cases q0 : valV kvs k with
    | some v0 => rw [q0] at q; exact (show False from q).elim
    | none =>
      have hl2 : (putK kvs k d).length ≤ sizeLine := by have := length_putK kvs k d; omega
      obtain ⟨q1, es, ep, hq, g2, g3, g4, _, g5⟩ := dd'
      refine h2 q0 _ _ (d_write I (by rw [e]; exact True.intro) hs ⟨q1, hq⟩ ⟨hl2, hd, _, (rel.put k eb rd).keeps fun c ys ec => ?_, q1, es, ep, hq, g2, g3, g4, g5⟩) rd
      rw [upd_ne (ne_of ec e (fun z => nomatch z))]
      exact ec
end
def tSetdT (td ty tx : TE) : TE := fun σ H Q => td σ H fun x H1 => ∃ a, x = .ref a ∧ IsD H1 a ∧ ty σ H1 fun y H2 => tx σ H2 fun z H3 => ∃ (kvs : List (List L2.Key × V)) (k : List L2.Key) (b : Addr), H3 a = some (.dT kvs) ∧ y = .ref b ∧ H3 b = some (.tup (k.map kV)) ∧ kvs.length < sizeLine ∧
  (∀ v, valV kvs k = some v → Q v H3) ∧ (valV kvs k = none → Q z (L2.upd H3 a (.dT (putK kvs k z))))
section
variable {X : Cx} {o e f : Expr} {td ty tx : TE} {apos cpos : Pos}
theorem pe_setdT (hu : X.A.units + 1 < cLine) (ho : PE X o td) (he : PE X e ty) (hf : PE X f tx) (m : M2 X o "setdefault" apos e f cpos) : PE X (.Call (.Attribute o "setdefault" apos) [e, f] [] cpos) (tSetdT td ty tx) := by
  refine ⟨fun pins s σ H Q I h => wpAny_Call_method m.base m.few m.line PySem.F.plainAttrs_dict PySem.F.slot_dict_setdefault PySem.F.type_dict_setdefault (thn (ho.run pins s σ H _ I h) fun u s1 ⟨x, H1, I1, rx, a, ex, dd, q1⟩ => ?_)⟩
  subst ex
  obtain rfl : u = Value.ref a := rx
  obtain ⟨t1, t2, _⟩ := isD_at I1 dd
  refine ⟨t1, t2, ?_⟩
  rw [m.trees]
  refine Calls.callWith_builtin rfl (Calls.evalArgs_plain (Calls.spliced_cons (thn (he.run pins s1 σ H1 _ I1 q1) fun iv s2 ⟨y, H2, I2, ry, q2⟩ => Calls.spliced_cons (thn (hf.run pins s2 σ H2 _ I2 q2) fun fv s3 ⟨z, H3, I3, rz, kvs, k, b, ea, ey, eb, hl, q3, q4⟩ => Calls.spliced_nil ?_))))
  subst ey
  cases (show iv = Value.ref b from ry)
  exact d_setdT hu I3 ea eb rz hl (fun v hv w' s4 I4 rw' => ⟨v, _, I4, rw', q3 v hv⟩) fun hn w' s4 I4 rw' => ⟨z, _, I4, rw', q4 hn⟩
end
def eSetDT (i : Nat) (f g : M O) : M O := fun e => match e[i]? with
  | some (some (.tr (.dtt _ _))) => (f.bind fun ko => g.bind fun o e2 => match e2[i]? with
    | some (some (.tr (.dtt ks xs))) => (match keyT ko.d with
      | some k => if ks.length < sizeLine then (match getKT ks xs k with
        | some d => some (.ok (.fr d) e2)
        | none => some (.ok (.fr o.d) (e2.set i (some (.tr (.dtt (putKTs ks k) (putXTs ks xs k o.d))))))) else none
      | none => none)
    | _ => none) e
  | _ => none
section
variable {X : Cx} {W : WX} {e1 e2 : Expr} {apos cpos p : Pos} {f g : M O} {x : Str} {i : Nat}
theorem d_setDT (hu : X.A.units + 64 < cLine) (hv : PE X (.Name x p) (tVar i)) (hk : PE X e1 (tE X.K X.mg W f)) (he : PE X e2 (tE X.K X.mg W g)) (m : M2 X (.Name x p) "setdefault" apos e1 e2 cpos) :
    PE X (.Call (.Attribute (.Name x p) "setdefault" apos) [e1, e2] [] cpos) (tE X.K X.mg W (eSetDT i f g)) := pe_imp (pe_setdT (by omega) hv hk he m) fun σ H Q h => by
  obtain ⟨B, e, S, r, h⟩ := h
  unfold eSetDT at h
  cases q0 : e[i]? with
  | none => rw [q0] at h; exact h.elim
  | some u0 =>
    rw [q0] at h
    cases u0 with
    | none => exact h.elim
    | some o0 =>
      cases o0 with
      | tr t0 =>
        cases t0 with
        | dtt ks0 xs0 =>
          obtain ⟨p0, kv0, hv0, hS0, hp0, _⟩ := dtt_at r q0
          refine ⟨_, hv0, p0, rfl, .inr ⟨kv0, .inl hp0⟩, B, e, S, r, (show Post (M.bind f _ e) _ _ from h).bind.imp (fun ko e3 h v1 B1 H1 S1 T vl f1 => ?_) fun _ _ z => z⟩
          obtain ⟨B2, vl2, f2⟩ := vl.freeze
          have f3 := fz_fr f1 f2
          refine ⟨B2, e3, S1, vl2.rp, (show Post (M.bind g _ e3) _ _ from h).bind.imp (fun o e4 h v2 B3 H3 S3 T3 vl3 f4 => ?_) fun x e4 z => ?_⟩
          · obtain ⟨B4, vl4, f5⟩ := vl3.freeze
            have f6 := fz_fr f4 f5
            cases q1 : e4[i]? with
            | none => rw [q1] at h; exact h.elim
            | some u1 =>
              cases u1 with
              | none => rw [q1] at h; exact h.elim
              | some o2 =>
                rw [q1] at h
                cases o2 with
                | tr t2 =>
                  cases t2 with
                  | dtt ks1 xs1 =>
                    dsimp only at h
                    cases hkk : keyT ko.d with
                    | none => rw [hkk] at h; exact h.elim
                    | some kk =>
                      rw [hkk] at h
                      dsimp only at h
                      by_cases hl : ks1.length < sizeLine
                      · rw [if_pos hl] at h
                        obtain ⟨p1, kv, hv1, hS, hp, ek, hr, hSi⟩ := dtt_at vl4.rp q1
                        rw [hv0] at hv1
                        cases hv1
                        obtain ⟨b, eb, hb⟩ := keyT_rep (vl2.ro.1.mono f6.b) vl4.rp.ex hkk
                        subst eb ek
                        have hl' : kv.length < sizeLine := by rw [List.length_map] at hl; exact hl
                        obtain ⟨g1, g2⟩ := getKT_rep (k := kk) rfl hr
                        have ff := f3.trans f6
                        refine ⟨kv, kk, b, hp, rfl, hb, hl', fun w hw => ?_, fun hn => ?_⟩
                        · cases hg : getKT (kv.map (·.1)) xs1 kk with
                          | none => rw [g2 hg] at hw; cases hw
                          | some d =>
                            rw [hg] at h
                            obtain ⟨w2, hw2, hd⟩ := g1 d hg
                            rw [hw2] at hw
                            cases hw
                            exact (show ∀ v B' H' S' T, Vl X.K B' H' σ e4 S' v (.fr d) T → Fr B H (tot S) B' H' (fun a => T a ∨ tot S' a) → Q v H' from h) _ B4 H3 S3 noS (.fr vl4.rp hd) (ff.imp (fun _ z => z) fun a z => z.elim (fun z => z.elim) id)
                        · cases hg : getKT (kv.map (·.1)) xs1 kk with
                          | some d =>
                            obtain ⟨w2, hw2, _⟩ := g1 d hg
                            rw [hw2] at hn
                            cases hn
                          | none =>
                            rw [hg] at h
                            obtain ⟨r5, f7⟩ := vl4.rp.mutT (o' := .tr (.dtt (putKTs (kv.map (·.1)) kk) (putXTs (kv.map (·.1)) xs1 kk o.d))) q1 hS hp (u' := .dT (putK kv kk v2)) (fun w hw => by
                              rw [hv0] at hw
                              cases hw
                              exact .dtt upd_same (putKT_ks kk v2 kv) (putKT_xs kk vl4.ro.1 hr) hSi)
                            exact (show ∀ v B' H' S' T, Vl X.K B' H' σ (e4.set i (some (.tr (.dtt (putKTs (kv.map (·.1)) kk) (putXTs (kv.map (·.1)) xs1 kk o.d))))) S' v (.fr o.d) T → Fr B H (tot S) B' H' (fun a => T a ∨ tot S' a) → Q v H' from h) _ B4 _ S3 noS (.fr r5 vl4.ro.1) ((ff.trans f7).imp (fun _ z => z) fun a z => z.elim (fun z => z.elim) id)
                      · rw [if_neg hl] at h; exact h.elim
                  | _ => exact h.elim
                | _ => exact h.elim
          · exact ExE.step z f3
        | _ => exact h.elim
      | _ => exact h.elim
end
/-! evaluated -/
section
variable {e : Sl}
def setDR (i : Nat) (e : Sl) (o ko : O) : Option O → Option (Ro O)
  | some (.tr (.dtt ks xs)) => match keyT ko.d with
    | some k => if ks.length < sizeLine then (match getKT ks xs k with
      | some d => some (.ok (.fr d) e)
      | none => some (.ok (.fr o.d) (e.set i (some (.tr (.dtt (putKTs ks k) (putXTs ks xs k o.d))))))) else none
    | none => none
  | _ => none
theorem setDR_s {i : Nat} {o ko : O} {ks : List (List L2.Key)} {xs : List D} {k : List L2.Key} {d : D} (hk : keyT ko.d = some k) (hl : ks.length < sizeLine) (hg : getKT ks xs k = some d) : setDR i e o ko (some (.tr (.dtt ks xs))) = some (.ok (.fr d) e) := by
  unfold setDR
  dsimp only
  rw [hk]
  dsimp only
  rw [if_pos hl, hg]
theorem setDR_n {i : Nat} {o ko : O} {ks : List (List L2.Key)} {xs : List D} {k : List L2.Key} (hk : keyT ko.d = some k) (hl : ks.length < sizeLine) (hg : getKT ks xs k = none) :
    setDR i e o ko (some (.tr (.dtt ks xs))) = some (.ok (.fr o.d) (e.set i (some (.tr (.dtt (putKTs ks k) (putXTs ks xs k o.d)))))) := by
  unfold setDR
  dsimp only
  rw [hk]
  dsimp only
  rw [if_pos hl, hg]
theorem eSetDT_a (i : Nat) (f g : M O) : eSetDT i f g e = (match getO e i with
    | some (.tr (.dtt _ _)) => @thn' _ _ (f e) ⟨fun ko e1 => @thn' _ _ (g e1) ⟨fun o e2 => setDR i e2 o ko (getO e2 i)⟩⟩
    | _ => none) := by
  unfold eSetDT
  rw [bind_a]
  have k : ∀ (e2 : Sl) (o ko : O), (match e2[i]? with
    | some (some (.tr (.dtt ks xs))) => (match keyT ko.d with
      | some k => if ks.length < sizeLine then (match getKT ks xs k with
        | some d => some (Ro.ok (.fr d) e2)
        | none => some (.ok (.fr o.d) (e2.set i (some (.tr (.dtt (putKTs ks k) (putXTs ks xs k o.d))))))) else none
      | none => none)
    | _ => none) = setDR i e2 o ko (getO e2 i) := fun e2 o ko => by
    unfold getO
    cases e2[i]? with
    | none => rfl
    | some u => cases u with
      | none => rfl
      | some o1 => cases o1 with
        | tr t => cases t <;> rfl
        | _ => rfl
  have k2 : @thn' O O (f e) ⟨fun ko => g.bind fun o e2 => match e2[i]? with
      | some (some (.tr (.dtt ks xs))) => (match keyT ko.d with
        | some k => if ks.length < sizeLine then (match getKT ks xs k with
          | some d => some (Ro.ok (.fr d) e2)
          | none => some (.ok (.fr o.d) (e2.set i (some (.tr (.dtt (putKTs ks k) (putXTs ks xs k o.d))))))) else none
        | none => none)
      | _ => none⟩ = @thn' _ _ (f e) ⟨fun ko e1 => @thn' _ _ (g e1) ⟨fun o e2 => setDR i e2 o ko (getO e2 i)⟩⟩ := thn_congr fun ko e1 => by
    rw [bind_a]
    exact thn_congr fun o e2 => k e2 o ko
  rw [k2]
  unfold getO
  cases e[i]? with
  | none => rfl
  | some u => cases u with
    | none => rfl
    | some o => cases o with
      | tr t => cases t <;> rfl
      | _ => rfl
end
end Dn

namespace Dn
open PySem L2
open PySem.Spec PyProof.Rows
open Evl (Ex)

/-! ## 64. A list taken out of a tuple that was just made: f(..)[k] -/
def eIxT (k : Nat) (f : M O) : M O := f.bind fun o => match o with
  | .tr (.tup ts) => (match ts[k]? with
    | some (.lst xs) => M.pure (.lst xs)
    | _ => fun _ => none)
  | _ => fun _ => none
section
variable {X : Cx} {W : WX} {a : Expr} {pos : Pos} {f : M O}
theorem d_ixT {k : Nat} {k0 : Nat} {p0 : Pos} (h : PE X a (tE X.K X.mg W f)) (hp : PlainIx (.Constant (.int (k : Int)) k0 p0) := by intro _ _; rfl) : PE X (.Subscript a (.Constant (.int (k : Int)) k0 p0) pos) (tE X.K X.mg W (eIxT k f)) :=
  pe_imp (pe_ix (r := rIx X.K) ix_seq h pe_int hp) fun σ H Q h => by
    obtain ⟨B, e, S, r, h⟩ := h
    refine ⟨B, e, S, r, (show Post (M.bind f _ e) _ _ from h).bind.imp (fun o e1 h v B1 H1 S1 T vl f1 => ?_) fun _ _ z => z⟩
    cases o with
    | tr t =>
      cases t with
      | tup ts =>
        dsimp only at h
        cases q : ts[k]? with
        | none => rw [q] at h; exact h.elim
        | some t1 =>
          rw [q] at h
          cases t1 with
          | lst xs =>
            cases (show RepT X.K B1 H1 v (.tup ts) T from vl.ro) with
            | tup c d =>
              obtain ⟨w, U, w1, w2, w3⟩ := RepTs.get d q
              refine .inr (.inl ⟨_, _, _, w, rfl, rfl, Evl.ex_t vl.rp.ex c.sq, by rw [atI_cn]; exact w1, ?_⟩)
              cases w2 with
              | lst k1 k2 k3 =>
                rename_i p vs
                exact (show ∀ v B' H' S' T, Vl X.K B' H' σ e1 S' v (.lst xs) T → Fr B H (tot S) B' H' (fun a => T a ∨ tot S' a) → Q v H' from h) (.ref p) B1 H1 S1 U ⟨vl.rp, ⟨p, vs, rfl, k1, k2, k3⟩, fun x z => vl.own x (w3 x z), fun x z => vl.dj x (w3 x z)⟩ (f1.imp (fun _ z => z) fun x z => z.elim (fun z => .inl (w3 x z)) .inr)
          | _ => exact h.elim
      | _ => exact h.elim
    | _ => exact h.elim
end
def ixR (k : Nat) (e : Sl) : O → Option (Ro O)
  | .tr (.tup ts) => (match ts[k]? with
    | some (.lst xs) => some (.ok (.lst xs) e)
    | _ => none)
  | _ => none
theorem ixR_t {k : Nat} {e : Sl} {ts : List T} {xs : List D} (h : ts[k]? = some (.lst xs)) : ixR k e (.tr (.tup ts)) = some (.ok (.lst xs) e) := by
  unfold ixR
  dsimp only
  rw [h]
theorem ixR_1 {e : Sl} {t : T} {ts : List T} {xs : List D} : ixR 1 e (.tr (.tup (t :: .lst xs :: ts))) = some (.ok (.lst xs) e) := ixR_t rfl
theorem eIxT_a {e : Sl} (k : Nat) (f : M O) : eIxT k f e = @thn' _ _ (f e) ⟨fun o e1 => ixR k e1 o⟩ := by
  unfold eIxT
  rw [bind_a]
  refine thn_congr fun o e1 => ?_
  unfold ixR
  cases o with
  | tr t =>
    cases t with
    | tup ts =>
      dsimp only
      cases ts[k]? with
      | none => rfl
      | some t1 => cases t1 <;> rfl
    | _ => rfl
  | _ => rfl
end Dn

namespace Dn
open PySem L2
open PySem.Spec PyProof.Rows
open Evl (Ex)

/-! ## 65. Defs called where no repr is under way: repr of data -/
/-- a def's promise where no repr is under way -/
structure FnG (P : Program) (w : World) (K : PySem.W.Frag) (mg : Str → Option Value) (base : Heap) (CX : CXT) (k : Nat) (f : Addr) (fd : FuncData) (ps : List Str) (sp : Sp) : Prop where
  len : ∀ vs H Q E, sp vs H Q E → vs.length = ps.length
  run : ∀ (A : Around) (outer : List Env) (s : Shared) (H : Hp) (args : Args) (us : List Value) (vs : List V) (Q : VK) (E : XK), A.guards = some [] → Room k A → Env0 P w K mg base A outer s H → BindsTo s fd args (ps.zip us) → Vals vs us → sp vs H Q E →
    codeAny (model P w) A (.call (.ref f) args) (CR CX outer P w H s Q E) s
section
variable {P : Program} {w : World} {K : PySem.W.Frag} {mg : Str → Option Value} {base : Heap} {CX : CXT} {j k : Nat} {f : Addr} {fd : FuncData} {ps : List Str} {sp sp' : Sp}
theorem FnG.of (F : FnOk P w K mg base CX k f fd ps sp) : FnG P w K mg base CX k f fd ps sp := ⟨F.len, fun A outer s H args us vs Q E _ => F.run A outer s H args us vs Q E⟩
theorem FnG.mono (F : FnG P w K mg base CX j f fd ps sp) (h : j ≤ k) : FnG P w K mg base CX k f fd ps sp := ⟨F.len, fun A outer s H args us vs Q E g hr => F.run A outer s H args us vs Q E g (hr.mono h)⟩
theorem FnG.imp (F : FnG P w K mg base CX k f fd ps sp) (h : ∀ vs H Q E, sp' vs H Q E → sp vs H Q E) : FnG P w K mg base CX k f fd ps sp' :=
  ⟨fun vs H Q E q => F.len vs H Q E (h _ _ _ _ q), fun A outer s H args us vs Q E g hr he hb hv hs => F.run A outer s H args us vs Q E g hr he hb hv (h _ _ _ _ hs)⟩
end
theorem deeper_g {A : Around} {env : Env} (h : A.guards = some []) : (A.deeper env).guards = some [] := by
  first | exact h | simpa [Around.deeper, Around.under, pushGuards] using h
theorem fnG_of {CX : CXT} {P : Program} {w : World} {K : PySem.W.Frag} {mg : Str → Option Value} {base : Heap} {k : Nat} {f : Addr} {name qual : Str} {params : Arguments} {body : List Stmt} {scope : Scope} {dV kV doc pm cdv ct oc : Value} {an od : Option Addr}
    {osl : Array (Option Value)} {N ps : List Str} {sp : Sp} (lk : K.lookup f = some ⟨oc, od, .func (PySem.W.fnOf name qual params body scope dV kV doc pm an cdv ct), osl⟩) (hcd : PySem.W.codeIn K cdv qual = true) (S : FnScope N ps scope)
    (len : ∀ vs H Q E, sp vs H Q E → vs.length = ps.length)
    (hbody : ∀ (A : Around) (outer : List Env) (s : Shared) (H : Hp) (vs : List V) (Q : VK) (E : XK), A.guards = some [] → Room k (A.deeper (envOfC qual scope s.heap.objs.size f cdv)) → sp vs H Q E →
      ∃ t, PSs (cxOf CX P w K mg base N qual scope f cdv A outer s H E) body t ∧ t { nx := fun _ H' => Q .non H', rt := Q } (start N vs) H) :
    FnG P w K mg base CX (k + 1) f (PySem.W.fnOf name qual params body scope dV kV doc pm an cdv ct) ps sp := by
  refine ⟨len, fun A outer s H args us vs Q E gA hr e0 hb r hsp => ?_⟩
  have hl := len _ _ _ _ hsp
  have KX : K.In s.heap := e0.mod.kin.keeps fun b o e => (e0.bs b o e).1
  have lim : s.heap.NoLimit := e0.mod.nolimit.keeps fun b o e => (e0.bs b o e).1
  have hkind : ∀ y ∈ ps.zip us, scope.names.lookup y.1 = some .local ∨ (scope.names.lookup y.1 = some .cell ∧ ((cellsFrom (s.heap.objs.size + 1) scope.names []).lookup y.1).isSome = true) := fun ⟨n, v⟩ hy => by
    rcases S.par n (List.of_mem_zip hy).1 with q | q
    · exact .inl q
    · exact .inr ⟨q, PySem.W.cellsFrom_some _ _ _ (.inl q)⟩
  refine codeAny_call_function hr.depth (KX _ _ lk) rfl S.co S.gen rfl (PySem.W.codeRec_of KX hcd) (hb _ _ _ _ ?_)
  refine wpAny_newFunctionEnv_cells S.kind hkind fun env he s1 x => ?_
  subst he
  refine ⟨lim.keeps x.toInCall.keep, codeAny_func ?_⟩
  obtain ⟨t, ht, hq⟩ := hbody A outer s H vs Q E gA (hr.deeper _) hsp
  have I : Inv (cxOf CX P w K mg base N qual scope f cdv A outer s H E) [] (start N vs) H s1 := inv_start S hr.hd e0 hl r x
  refine wpAny_mono (ht.run [] s1 (start N vs) H _ I hq) (fun fl s' hs => ?_) fun e s' hs => hs
  have fin : ∀ {σ' : L2.St} {H' : Hp} {v : V} {u : Value}, Inv (cxOf CX P w K mg base N qual scope f cdv A outer s H E) [] σ' H' s' → RelV v u → Q v H' → CE outer P w H s Q u s' :=
    fun {σ' H' v u} J rv q => ⟨v, H', J.os, J.bare, J.base, J.hok, rv, q⟩
  cases fl with
  | ret u => obtain ⟨v, σ', H', J, rv, q⟩ := hs; exact fin J rv q
  | next => obtain ⟨σ', H', J, q⟩ := hs; exact fin (v := V.non) (u := Value.none) J rfl q
  | brk => obtain ⟨_, _, _, q⟩ := hs; exact False.elim q
  | cont => obtain ⟨_, _, _, q⟩ := hs; exact False.elim q
section
variable {P : Program} {w : World} {K : PySem.W.Frag} {mg : Str → Option Value} {base : Heap}
theorem fn_dnG {x qual : Str} {st : Stmt} {f : Addr} {fd : FuncData} {N ps : List Str} {k : Nat} {ks : List Nat} {g : M Fl} (F : Fun K x qual st f fd) (Sc : FnScope N ps (defScope st)) (n m : Nat) (hn : ps.length = n) (hm : N.length = m)
    (hb : ∀ (cdv : Value) (A : Around) (outer : List PySem.Env) (s : Shared) (H : Hp) (E : XK), (cxOf (L2N.CX P w) P w K mg base N qual (defScope st) f cdv A outer s H E).A.guards = some [] → Room k (A.deeper (envOfC qual (defScope st) s.heap.objs.size f cdv)) →
      L2N.Takes (cxOf (L2N.CX P w) P w K mg base N qual (defScope st) f cdv A outer s H E) (fun cls d _ H => E cls d H) →
      PassesOwn (model P w) (A.deeper (envOfC qual (defScope st) s.heap.objs.size f cdv)) (envOfC qual (defScope st) s.heap.objs.size f cdv) (cxOf (L2N.CX P w) P w K mg base N qual (defScope st) f cdv A outer s H E).xe →
      PSs (cxOf (L2N.CX P w) P w K mg base N qual (defScope st) f cdv A outer s H E) (defBody st) (tS K mg (fun cls d _ H => E cls d H) ks g)) :
    FnG P w K mg base (L2N.CX P w) (k + 1) f fd ps (spD K mg n (mkF m ks g)) := by
  subst hn
  subst hm
  obtain ⟨oc, od, dV, kV, doc, pm, an, cdv, ct, osl, rfl, lk, hcd⟩ := (fun_x F).ex
  exact fnG_of lk hcd Sc (fun vs H Q E h => h.1) fun A outer s H vs Q E gA hr hsp => ⟨_, hb cdv A outer s H E (deeper_g gA) hr (L2N.takes_of rfl rfl rfl rfl) (passes_of rfl), den_core Sc hsp⟩
theorem fnG_none {k n : Nat} {f : Addr} {fd : FuncData} {ps : List Str} (hn : ps.length = n) : FnG P w K mg base (L2N.CX P w) k f fd ps (spD K mg n fun _ => none) := FnG.of (fn_none hn)
end
/-- a def of the module, by its name, called where no repr is under way -/
structure ClG (P : Program) (w : World) (K : PySem.W.Frag) (mg : Str → Option Value) (base : Heap) (k : Nat) (x : Str) (n : Nat) (F : Fn) (dv : List D) : Prop where
  ex : ∃ (f : Addr) (fd : FuncData) (ps : List Str) (ds : List Value) (dvs : List V), ps.length = n ∧ FnG P w K mg base (L2N.CX P w) k f fd ps (spD K mg ps.length F) ∧ mg x = some (.ref f) ∧ PySem.W.keepIn K (.ref f) = true ∧ Binds K fd ps ds ∧ Vals dvs ds ∧ ∀ B, RepL K B dvs dv
theorem clG_mk {P : Program} {w : World} {K : PySem.W.Frag} {mg : Str → Option Value} {base : Heap} {k n : Nat} {x : Str} {F : Fn} {f : Addr} {fd : FuncData} {ps : List Str} (h : FnG P w K mg base (L2N.CX P w) k f fd ps (spD K mg n F)) (hm : mg x = some (.ref f)) (hk : PySem.W.keepIn K (.ref f) = true) (hb : Binds K fd ps []) (hn : ps.length = n := by rfl) : ClG P w K mg base k x n F [] :=
  ⟨f, fd, ps, [], [], hn, by rw [hn]; exact h, hm, hk, hb, .nil, fun _ => .nil⟩
theorem ClG.mono {P : Program} {w : World} {K : PySem.W.Frag} {mg : Str → Option Value} {base : Heap} {k l n : Nat} {x : Str} {F : Fn} {dv : List D} (h : ClG P w K mg base k x n F dv) (hl : k ≤ l) : ClG P w K mg base l x n F dv := by
  obtain ⟨f, fd, ps, ds, dvs, h0, h1, h2⟩ := h.ex
  exact ⟨f, fd, ps, ds, dvs, h0, h1.mono hl, h2⟩
section
variable {X : Cx} {W : WX} {x : Str} {p pos : Pos} {e : Expr} {es : List Expr} {k j n : Nat} {F : Fn} {dv : List D} {ps : List P}
theorem run_fnG {CX : CXT} {pins : List (Addr × Obj)} {σ : L2.St} {H : Hp} {s : Shared} {Q : VK} {f : Addr} {fd : FuncData} {pn : List Str} {sp : Sp} {ds : List Value} {dvs : List V} {us : List Value} {vs : List V} {E : L2.St → XK} (F : FnG X.prog X.w X.K X.mg X.base CX k f fd pn sp) (hgu : X.A.guards = some []) (hr : Room k X.A) (hb : Binds X.K fd pn ds) (hd : Vals dvs ds) (hx : PassesAt CX X σ (E σ))
    (I : Inv X pins σ H s) (r : Vals vs us) (h : sp (vs ++ dvs) H Q (E σ)) : wpAny (model X.prog X.w) X.A (call (.ref f) us) (EP X pins σ Q) X.xe s := by
  have r2 : Vals (vs ++ dvs) (us ++ ds) := r.append hd
  have hl : (us ++ ds).length = pn.length := by rw [← r2.length]; exact F.len _ _ _ _ h
  refine wpAny_call (codeAny_mono (F.run X.A X.stack s H ⟨us, []⟩ (us ++ ds) (vs ++ dvs) Q (E σ) hgu hr I.env0 (hb s us I.kIn hl) r2 h) fun r s' hq => ?_)
  cases r with
  | error e => exact hx pins H s e s' I hq
  | ok fl =>
    cases fl with
    | ret u => exact I.after hq
    | next => exact False.elim hq
    | brk => exact False.elim hq
    | cont => exact False.elim hq
theorem d_callG (C : ClG X.prog X.w X.K X.mg X.base k x n F dv) (hgu : X.A.guards = some []) (hr : Room j X.A) (tk : L2N.Takes X W) (ha : PA X (e :: es) (tPs X.K X.mg W ps)) (hk : k ≤ j := by decide) (hg : Gl X x := by rfl) (hn : n = ps.length + dv.length := by rfl) (nd : (bs ps).Nodup := by decide)
    (hdb : (x == ("__debug__" : Str)) = false := by decide) (he : starEach (e :: es) X.env = (false, eval e X.env) :: starEach es X.env := by rfl) (hpl : (backTo pos (starEach es X.env)).any (·.1) = false := by rfl) :
    PE X (.Call (.Name x p) (e :: es) [] pos) (tE X.K X.mg W (eCall F ps dv)) := by
  obtain ⟨f, fd, pn, ds, dvs, h0, h1, h2, h3, h4, h5, h6⟩ := C.ex
  have hl : dvs.length = dv.length := (h6 fun _ => none).length
  refine ⟨fun pins s σ H Q I h => ?_⟩
  have h' := call_core hl (h0.trans hn) nd h6 h
  refine wpAny_Call_Name_kw (ld_glob I hg h2 ?_ hdb)
  refine PySem.W.callWith_K (h₀ := X.base) I.ok.mod.kin h3 (thn (ha.run pos pins s σ H _ I h') fun us s1 ⟨vs, H1, I1, r, q⟩ => ⟨I1.kIn, ?_⟩) he hpl
  exact run_fnG (E := WE W) h1 hgu (hr.mono hk) h4 h5 (L2N.passAt tk σ) I1 r q
end
end Dn

namespace Dn
open PySem L2
open PySem.Spec PyProof.Rows
open Evl (Ex)

/-! ## 66. repr of data -/
def rRepr (K : PySem.W.Frag) : List V → Hp → VK → Prop := fun xs H Q => ∃ x d, xs = [x] ∧ Dp K H x d ∧ d.canLay0 = true ∧ d.depth ≤ 64 ∧ d.showable = true ∧ d.shown.length ≤ sizeLine ∧ Q (.str d.shown) H
def gRepr : List D → Option O
  | [d] => if shp d && (d.py.showable && decide (d.py.shown.length ≤ sizeLine)) then some (sO d.py.shown) else none
  | _ => none
theorem n_repr {K : PySem.W.Frag} : SndN K (rRepr K) gRepr := by
  intro B H vs ds o hx hr hg Q q
  unfold gRepr at hg
  split at hg
  · split at hg
    · rename_i hs
      obtain ⟨v, rfl, h1⟩ := hr.one
      rw [Bool.and_eq_true, Bool.and_eq_true] at hs
      have h2 := hs.1
      unfold shp SeqAt.shaped at h2
      rw [Bool.and_eq_true] at h2
      injection hg with hg
      subst hg
      exact ⟨_, _, rfl, h1.dp hx (shp_nx hs.1), h2.1, of_decide_eq_true h2.2, hs.2.1, of_decide_eq_true hs.2.2, q.fr hx (.str _)⟩
    · cases hg
  · cases hg
theorem call_repr {X : Cx} (hgu : X.A.guards = some []) (hu : X.A.units + 80 < cLine) : CallR X (.builtin "repr") (rRepr X.K) := by
  intro pins s σ H xs us Q I r h
  obtain ⟨x, d, rfl, hd, c1, c2, c3, c4, q⟩ := h
  obtain ⟨u, rfl, rv⟩ := vals1 r
  obtain ⟨as, rd⟩ := Dp.reads I d x u hd rv
  have nd : d.hasDict = false := PyData.hasDict_of_canLay d c1
  cases rd with
  | none => exact PySem.P.repr_of_none ⟨.str _, H, I.tok _, ⟨_, rfl⟩, by simpa [PyData.shown] using q⟩
  | bool b => exact PySem.P.repr_of_bool ⟨.str _, H, I.tok _, ⟨_, rfl⟩, by simpa [PyData.shown] using q⟩
  | int i t => exact PySem.P.repr_of_int (by simpa [PyData.showable] using c3) ⟨.str _, H, I.tok _, ⟨_, rfl⟩, by simpa [PyData.shown] using q⟩
  | str z t => exact PySem.P.repr_of_str ⟨.str _, H, I.tok _, ⟨_, rfl⟩, by simpa [PyData.shown] using q⟩ (by simpa [PyData.shown] using c4)
  | list h1 h2 h3 h4 => exact repr_of_reads' (Reads.list h1 h2 h3 h4) c3 (PyData.noDict_hsm nd) hgu (by omega) (fun b o e => e) (fun h' u tk hk => ⟨.str _, H, I.kept hk, ⟨_, rfl⟩, q⟩) c4
  | tuple h1 h2 h3 h4 => exact repr_of_reads' (Reads.tuple h1 h2 h3 h4) c3 (PyData.noDict_hsm nd) hgu (by omega) (fun b o e => e) (fun h' u tk hk => ⟨.str _, H, I.kept hk, ⟨_, rfl⟩, q⟩) c4
  | dict h1 h2 h3 h4 h5 => simp [PyData.hasDict] at nd
theorem _root_.L2.Room.units80 {k : Nat} {A : Around} (r : Room k A) : A.units + 80 < cLine := by have := r.un; omega
/-! ## 67. The end for a law that asks for repr: its call, where no repr is under way -/
theorem law_callG {P : Program} {w : World} {K : PySem.W.Frag} {mg mb : Str → Option Value} {CX : CXT} {k : Nat} {fa a : Addr} {fd : FuncData} {x : Str} {sp : Sp} {s₁ : Shared} {vs : List Value} {ns : List Int}
    (KX : K.In s₁.heap) (hns : s₁.heap.Ns mainGlobals mg) (hb : s₁.heap.Ns builtinsNs mb) (hbb : ∀ x : Str, x ≠ "__name__" → mb x = bootBuiltins x) (hlim : s₁.heap.NoLimit) (hg : s₁.gens = #[])
    (ha : s₁.heap.get? a = some { cls := .type "list", data := .seq vs.toArray }) (hi : IntsAre vs ns) (hl : ns.length ≤ sizeLine) (hr : Room k callerA)
    (F : ∀ base : Heap, K.In base → base.Ns mainGlobals mg → FnG P w K mg base CX k fa fd [x] sp) (hbind : ∀ (s : Shared) (u : Value), BindsTo s fd ⟨[u], []⟩ [(x, u)])
    (hsp : ∀ H : Hp, Only H → SqL K H a (ns.map V.int) → sp [.ref a] H (fun v _ => v = .bl true) fun _ _ _ => False)
    (hCX : ∀ H e s', CX [] H s₁ (fun _ _ _ => False) e s' → False) :
    codeAny (model P w) callerA (.call (.ref fa) ⟨[.ref a], []⟩) (fun r s' => r = .ok (.ret (.bool true)) ∧ OldK s₁.heap s'.heap ∧ s'.os = s₁.os ∧ AllBare s'.gens) s₁ := by
  have lenV := hi.length
  -- the tracked heap: the script, if it is none of the module's own objects; else nothing
  obtain ⟨H, hO, hS, hok, hA, hK⟩ : ∃ H : Hp, Only H ∧ SqL K H a (ns.map V.int) ∧ HOk P w H s₁.heap ∧ (∀ b, H b ≠ none → b = a) ∧ (H a ≠ none → K.lookup a = none) := by
    cases hk : K.lookup a with
    | some o =>
      have e := KX a o hk
      rw [ha] at e
      cases e
      exact ⟨fun _ => none, fun _ => .inl rfl, .inr ⟨_, vs.toArray, _, hk, rfl, rfl, rfl, by rw [List.size_toArray, lenV]; exact hl, by simpa using vals_ints hi⟩, fun b u z => (by have z' : (none : Option HO) = some u := z; cases z'), fun b z => absurd rfl z, fun z => absurd rfl z⟩
    | none =>
      have at_a : ∀ {b : Addr} {u : HO}, (if b = a then some (HO.frz { cls := .type "list", data := .seq vs.toArray } (.lst (ns.map V.int))) else none) = some u → b = a ∧ u = .frz { cls := .type "list", data := .seq vs.toArray } (.lst (ns.map V.int)) := fun {b u} z => by
        by_cases h : b = a
        · rw [if_pos h] at z; cases z; exact ⟨h, rfl⟩
        · rw [if_neg h] at z; cases z
      refine ⟨fun b => if b = a then some (.frz { cls := .type "list", data := .seq vs.toArray } (.lst (ns.map V.int))) else none, fun b => ?_, .inl (.inr ⟨{ cls := .type "list", data := .seq vs.toArray }, if_pos rfl⟩), fun b u z => ?_, fun b z => ?_, fun _ => rfl⟩
      · by_cases h : b = a
        · exact .inr ⟨_, _, if_pos h⟩
        · exact .inl (if_neg h)
      · obtain ⟨rfl, rfl⟩ := at_a z
        exact ⟨ha, by rw [List.length_map]; exact hl, vs, _, vals_ints hi, ha⟩
      · by_cases h : b = a
        · exact h
        · exact absurd (if_neg h) z
  have free : ∀ {b : Addr} {o : Obj}, s₁.heap.get? b = some o → (b = a → H b = none) → H b = none := fun {b o} _ h => by
    cases q : H b with
    | none => rfl
    | some u => exact (h (hA b (by rw [q]; simp))).symm.trans q |>.symm
  have notA : ∀ {b : Addr} {o : Obj} {es : Array DictEntry} {ep : Nat}, s₁.heap.get? b = some o → o.data = .dict es ep → H b = none := fun {b o es ep} e d => free e fun z => by
    subst z
    rw [ha] at e
    cases e
    have d' : Data.seq vs.toArray _ = Data.dict es ep := d
    cases d'
  have base : ∀ {b : Addr} {o : Obj}, s₁.heap.get? b = some o → H b = none → (hidT s₁.heap H).get? b = some o := fun e n => hidT_get e n
  have nsK : ∀ {b : Addr} {m : Str → Option Value}, s₁.heap.Ns b m → (hidT s₁.heap H).Ns b m := fun {b m} ⟨o, es, ep, e, d, r⟩ => ⟨o, es, ep, base e (notA e d), d, r⟩
  have kIn : K.In (hidT s₁.heap H) := fun b o e => base (KX b o e) (free (KX b o e) fun z => by
    subst z
    cases q : H b with
    | none => rfl
    | some u => rw [hK (by rw [q]; simp)] at e; cases e)
  have hM : Mod K mg (hidT s₁.heap H) := ⟨kIn, nsK hns, ⟨mb, nsK hb, hbb⟩, let ⟨mc, h1, h2⟩ := hlim; ⟨mc, nsK h1, h2⟩⟩
  have e0 : Env0 P w K mg (hidT s₁.heap H) callerA [] s₁ H := ⟨rfl, hM, fun b o e => of_hidT e, Nat.le_of_eq (hidT_size _ _), trivial, fun b hb => absurd (show b ∈ ([] : List Addr) from hb) (by simp), hok, .of_eq hg⟩
  refine codeAny_mono ((F _ kIn (nsK hns)).run callerA [] s₁ H ⟨[.ref a], []⟩ [.ref a] [.ref a] _ _ rfl hr e0 (hbind s₁ (.ref a)) (.cons rfl .nil) (hsp H hO hS)) fun r s' h => ?_
  cases r with
  | error e => exact (hCX H e s' h).elim
  | ok fl =>
    cases fl with
    | next => exact False.elim h
    | brk => exact False.elim h
    | cont => exact False.elim h
    | ret u =>
      obtain ⟨v, H', os, bare, un, hok', r', q⟩ := h
      obtain rfl : v = .bl true := q
      obtain rfl : u = Value.bool true := r'
      refine ⟨rfl, OldK.of_keep fun b o e => ?_, os, bare⟩
      rcases hO b with z | ⟨ob, xs, z⟩
      · exact un.keep b o e z (fun z => absurd (show b ∈ ([] : List Addr) from z) (by simp)) (by simp)
      · obtain ⟨e1, _⟩ := hok b _ z
        obtain ⟨e2, _⟩ := hok' b _ (un.frzs b ob _ z)
        rw [e] at e1; cases e1
        exact e2
theorem law_spG {P : Program} {w : World} {K : PySem.W.Frag} {mg : Str → Option Value} {base : Heap} {CX : CXT} {k : Nat} {f : Addr} {fd : FuncData} {ps : List Str} {F : Fn} (h : FnG P w K mg base CX k f fd ps (spD K mg 1 F))
    (hF : ∀ ns : List Int, ns.length ≤ 63 → ∃ os, F [.fr (.scr ns)] = some (.ok (bO true) os)) : FnG P w K mg base CX k f fd ps (spLaw K) := by

  refine h.imp fun vs H Q E q => ?_
  obtain ⟨a, ns, ev, hs, hl, q⟩ := q
  subst ev
  obtain ⟨os, e⟩ := hF ns hl
  refine ⟨rfl, H, [.fr (.scr ns)], fun _ => noS, ⟨rfl, Ex.refl H, fun i o ho => ?_, fun _ _ _ z => z.elim, fun _ _ z => z.elim⟩, ?_⟩
  · cases i with
    | zero =>
      have ho' : some (some (O.fr (D.scr ns))) = some (some o) := ho
      cases ho'
      exact ⟨_, rfl, .scr hs, fun _ z => z⟩
    | succ i => simp at ho
  · rw [e]
    intro v B' H' S' T _ vl _
    have hr := vl.ro.1
    cases hr
    exact q H'
/-- the end over such a head, for a law that asks for repr -/
theorem walk_LG {l : PySem.W.OpenLaw} {k : Nat} {q : Program} {loose : List Str} {XP : (Str → Option Value) → Heap → Prop} {YP : World → Heap → Prop} {d : DefRec} {x : Str}
    (hn : l.most = some 63) (hdf : d.params.defaults = []) (hr : Room k callerA)
    (F : ∀ (w : World) (mg : Str → Option Value) (fa : Addr) (h : Heap), YP w h → h.Ns mainGlobals mg → mg d.name = some (.ref fa) → ∃ K : PySem.W.Frag, K.In h ∧ ∃ fd : FuncData,
      (∀ (s : Shared) (u : Value), BindsTo s fd ⟨[u], []⟩ [(x, u)]) ∧ ∀ base : Heap, K.In base → base.Ns mainGlobals mg → FnG l.prog w K mg base (L2N.CX l.prog w) k fa fd [x] (spLaw K)) :
    PySem.W.WalkO q loose XP YP l.row.toRowW d [] (fun f vs => PySem.call f vs) := by
  refine _root_.Att.attach_call hn hdf fun w s₀ s₁ mg mb fa o pm cd doc a vs ns G Y ho hd hcd hmg hobj hints hlen hg => ?_
  obtain ⟨K, X, fd, hb, ok⟩ := F w mg fa _ Y G.T.g hmg
  refine law_callG X G.T.g G.T.b G.T.builtins G.T.nolimit hg hobj hints (Nat.le_trans hlen (by decide)) hr ok hb (fun H _ hS => ⟨a, ns, rfl, hS, hlen, fun _ => rfl⟩) ?_
  exact fun H e s' hx => law_cx H s₁ e s' hx
end Dn

namespace Dn
open PySem L2
open PySem.Spec PyProof.Rows
open Evl (Ex)

/-! ## 68. two dicts with the same keys and the same data: != says no -/
def rNeK (K : PySem.W.Frag) : R2 := fun x y H Q => ∃ a b kva kvb, x = .ref a ∧ y = .ref b ∧ H a = some (.dK kva) ∧ H b = some (.dK kvb) ∧ kva.map (·.1) = kvb.map (·.1) ∧ (kvb.map (·.1)).Nodup ∧
  (∀ (j : Nat) (p q : L2.Key × V), kva[j]? = some p → kvb[j]? = some q → ∃ d e, Dp K H p.2 d ∧ Dp K H q.2 e ∧ SeqAt.shaped d = true ∧ SeqAt.shaped e = true ∧ PyData.eqv d e = true) ∧ Q (.bl false) H
theorem valueAt_at {κ : Type} [DecidableEq κ] : ∀ {kb : List (κ × Value)} {j : Nat} {q : κ × Value}, (kb.map (·.1)).Nodup → kb[j]? = some q → PySem.valueAt kb q.1 = some q.2
  | [], _, _, _, h => by simp at h
  | p :: kb, 0, q, _, h => by
    have : p = q := by simpa using h
    subst this
    unfold PySem.valueAt
    simp
  | p :: kb, j + 1, q, nd, h => by
    have h : kb[j]? = some q := by simpa using h
    rw [List.map_cons, List.nodup_cons] at nd
    have ne : ¬ p.1 = q.1 := fun e => nd.1 (by rw [e]; exact List.mem_map_of_mem (List.mem_of_getElem? h))
    have ih := valueAt_at nd.2 h
    unfold PySem.valueAt at ih ⊢
    rw [List.find?_cons_of_neg (by simpa using ne)]
    exact ih
theorem hits_same {κ : Type} [DecidableEq κ] {A : Around} {s : Shared} {kb : List (κ × Value)} (nd : (kb.map (·.1)).Nodup) : ∀ (ka kr pre : List (κ × Value)), kb = pre ++ kr → ka.map (·.1) = kr.map (·.1) →
    (∀ (j : Nat) (p q : κ × Value), ka[j]? = some p → kr[j]? = some q → SeqAt.EqAt A s p.2 q.2 true) → PySem.W.KeqHits A s kb ka true
  | [], _, _, _, _, _ => .nil
  | p :: ka, [], _, _, hk, _ => by simp at hk
  | p :: ka, q :: kr, pre, e, hk, he => by
    rw [List.map_cons, List.map_cons] at hk
    injection hk with h1 h2
    have hq : kb[pre.length]? = some q := by rw [e, List.getElem?_append_right (Nat.le_refl _), Nat.sub_self]; rfl
    have v := valueAt_at nd hq
    have h1 : p.1 = q.1 := h1
    rw [← h1] at v
    obtain ⟨pk, pv⟩ := p
    have t := PySem.W.KeqHits.hit (A := A) (s := s) (kb := kb) (r := ka) v (he 0 (pk, pv) q rfl rfl) (hits_same nd ka kr (pre ++ [q]) (by rw [e]; simp) h2 fun j p q a b => he (j + 1) p q (by simpa using a) (by simpa using b))
    exact t
theorem paired_at {κ : Type} : ∀ {kv : List (κ × V)} {vs : List (κ × Value)}, KV kv vs → kv.map (·.1) = vs.map (·.1) ∧ ∀ (j : Nat) (q : κ × Value), vs[j]? = some q → ∃ p, kv[j]? = some p ∧ RelV p.2 q.2 := by
  intro kv vs h
  unfold KV at h
  induction h with
  | nil => exact ⟨rfl, fun j q h => by simp at h⟩
  | cons h t ih =>
    refine ⟨by rw [List.map_cons, List.map_cons, h.1, ih.1], fun j q hq => ?_⟩
    cases j with
    | zero => exact ⟨_, rfl, by have e := Option.some.inj hq; rw [← e]; exact h.2⟩
    | succ j => obtain ⟨p, a, b⟩ := ih.2 j q (by simpa using hq); exact ⟨p, by simpa using a, b⟩
theorem o_neK {X : Cx} (hu : X.A.units + 80 < cLine) : OpR X (compareOp .NotEq) (rNeK X.K) := by
  intro pins s σ H x y v u Q I rx ry h
  obtain ⟨a, b, kva, kvb, rfl, rfl, ha, hb, hk, nd, hd, q⟩ := h
  obtain rfl : v = Value.ref a := rx
  obtain rfl : u = Value.ref b := ry
  obtain ⟨_, la, va, ra, da⟩ := dk_of I.hok ha
  obtain ⟨_, lb, vb, rb, db⟩ := dk_of I.hok hb
  obtain ⟨ka, pa⟩ := paired_at ra
  obtain ⟨kb, pb⟩ := paired_at rb
  have kk : va.map (·.1) = vb.map (·.1) := by rw [← ka, ← kb, hk]
  have ll : va.length = vb.length := by have := congrArg List.length kk; rwa [List.length_map, List.length_map] at this
  refine PySem.W.keq_ne la lb da db (by omega) (r := true) (fun _ => hits_same (by rw [← kb]; exact nd) va vb [] rfl kk fun j p q' hp hq => ?_) ?_
  · obtain ⟨p0, g1, r1⟩ := pa j p hp
    obtain ⟨q0, g2, r2⟩ := pb j q' hq
    obtain ⟨d, e, d1, d2, s1, s2, ev⟩ := hd j p0 q0 g1 g2
    obtain ⟨as, rd1⟩ := Dp.reads I d p0.2 p.2 d1 r1
    obtain ⟨bs, rd2⟩ := Dp.reads I e q0.2 q'.2 d2 r2
    have := PySem.W.keq_at rd1 rd2 s1 s2 (A := X.A) (by show X.A.units + 1 + 64 < cLine; omega)
    rw [ev] at this
    exact this
  · rw [ll]
    simp
    exact ⟨.bl false, H, I, rfl, q⟩
def gNeK : List D → Option O
  | [.dct ks xs, .dct ks' xs'] => if decide (ks = ks') && (decide ks.Nodup && (xs.zip xs').all (fun p => shp p.1 && (shp p.2 && D.eqv p.1 p.2))) then some (bO false) else none
  | _ => none
theorem repL_at {K : PySem.W.Frag} {B : Hp} : ∀ {vs : List V} {ds : List D} {j : Nat} {v : V}, RepL K B vs ds → vs[j]? = some v → ∃ d, ds[j]? = some d ∧ Rep K B v d
  | _, _, _, _, .nil, h => by simp at h
  | _, _, 0, v, .cons h _, e => ⟨_, rfl, by have e := Option.some.inj e; rw [← e]; exact h⟩
  | _, _, j + 1, v, .cons _ t, e => repL_at (j := j) t (by simpa using e)
theorem n_neK {K : PySem.W.Frag} : Snd2 K (rNeK K) gNeK := fun B H x y a b o hx ha hb hg Q q => by
  unfold gNeK at hg
  split at hg
  · rename_i ks xs ks' xs' h
    injection h with h1 h2
    injection h2 with h2 _
    subst h1 h2
    split at hg
    · rename_i hs
      cases hg
      rw [Bool.and_eq_true, Bool.and_eq_true] at hs
      obtain ⟨e1, e2, e3⟩ := hs
      have e1 := of_decide_eq_true e1
      have e2 := of_decide_eq_true e2
      obtain ⟨a, kv, rfl, h1, k1, r1⟩ := ha
      obtain ⟨b, kv', rfl, h2, k2, r2⟩ := hb
      refine ⟨a, b, kv, kv', rfl, rfl, h1, h2, by rw [k1, k2, e1], by rw [k2, ← e1]; exact e2, fun j p q' hp hq => ?_, q.fr hx (.bl _)⟩
      obtain ⟨d, gd, rd⟩ := repL_at (j := j) (v := p.2) r1 (by rw [List.getElem?_map, hp]; rfl)
      obtain ⟨e, ge, re⟩ := repL_at (j := j) (v := q'.2) r2 (by rw [List.getElem?_map, hq]; rfl)
      have hm : (d, e) ∈ xs.zip xs' := List.mem_of_getElem? (i := j) (by rw [List.getElem?_zip_eq_some]; exact ⟨gd, ge⟩)
      have al := List.all_eq_true.mp e3 _ hm
      rw [Bool.and_eq_true, Bool.and_eq_true] at al
      exact ⟨_, _, (Rep.dp (rd.mono hx) (shp_nx al.1)), (Rep.dp (re.mono hx) (shp_nx al.2.1)), al.1, al.2.1, al.2.2⟩
    · cases hg
  · cases hg
end Dn

namespace Dn
open PySem L2

/-! ## 69. Loops within an except suite -/
section
variable {X : Cx} {W : WX} {ks : List Nat} {g : M Fl} {pos : Pos} {tg : Tg} {src : M (List D)} {a : Addr} {oe : Obj} {cls : Value} {d : Option Addr} {pn : List (Addr × Obj)}
theorem takes0N {X : Cx} : L2N.Takes X (fun _ _ _ _ => False) := fun _ _ ⟨_, _, _, _, _, _, _, _, _, _, _, _, _, _, _, _, w⟩ => w.elim
theorem hotZ (hz : L2N.Zn cls d oe) (hf : ∃ vs, oe.data = .fields vs) : L2H.HotC (X.suite a ((a, oe) :: pn)) := by
  obtain ⟨vs, hd⟩ := hf
  exact ⟨(a, oe), ⟨rfl, vs, hd, hz.2.2 vs hd⟩, List.mem_cons_self⟩
theorem s_forH {iter target : Expr} {body : List Stmt} (hp : PassesOwn (model X.prog X.w) X.A X.env X.xe) (hc : L2H.HotC X) (hi : L2H.PIH X target iter (tSrc X.K X.mg W src)) (hg : PG X target (tTg X.K tg)) (hb : PSs X body (tS X.K X.mg W ks g)) (hk : ∀ i ∈ tg.ix, i ∉ ks)
    (hs : ∀ x, foldedSetIterable iter X.env x = pure x := by intro _; rfl) : PS X (.For target iter body [] pos) (tS X.K X.mg W ks (sFor src tg g)) := ps_imp (L2H.ps_forH hp hc hi hg hb hs) fun D σ H h => for_imp hk h
theorem i_rng1H {target e : Expr} {p1 : P} {p : Pos} (hg : Gl X "range") (hm : X.mg "range" = none) (ha : PA X [e] (tPs X.K X.mg W [p1])) (hs : starEach [e] X.env = [(false, eval e X.env)] := by rfl) : L2H.PIH X target (.Call (.Name "range" p) [e] [] pos) (tSrc X.K X.mg W (sRng1 p1)) := by
  have h := L2H.pi_range1H (tg := target) (p := p) (pos := pos) hg hm ha hs
  exact ⟨fun pins s σ H R I q => h.run pins s σ H R I (rng1_imp q)⟩
end
end Dn


namespace Lw
open PySem L2 Dn
abbrev sc__law_cellN : List Str := [(PySem.Str.ofString "_law_script"), (PySem.Str.ofString "_law_k")]
theorem sc__law_cell : FnScope sc__law_cellN [(PySem.Str.ofString "_law_script"), (PySem.Str.ofString "_law_k")] (defScope s__law_cell) := ⟨rfl, rfl, rfl, by decide +kernel, rfl, by decide +kernel, by decide +kernel⟩
abbrev sc__law_rowN : List Str := [(PySem.Str.ofString "_law_cell_here"), (PySem.Str.ofString "_law_count"), (PySem.Str.ofString "_law_base"), (PySem.Str.ofString "_law_row_here"), (PySem.Str.ofString "_law_k"), (PySem.Str.ofString "_law_number")]
theorem sc__law_row : FnScope sc__law_rowN [(PySem.Str.ofString "_law_cell_here"), (PySem.Str.ofString "_law_count"), (PySem.Str.ofString "_law_base")] (defScope s__law_row) := ⟨rfl, rfl, rfl, by decide +kernel, rfl, by decide +kernel, by decide +kernel⟩
abbrev sc__law_valueN : List Str := [(PySem.Str.ofString "_law_script"), (PySem.Str.ofString "_law_signs"), (PySem.Str.ofString "_law_others"), (PySem.Str.ofString "_law_size"), (PySem.Str.ofString "_law_chars"), (PySem.Str.ofString "_law_k")]
theorem sc__law_value : FnScope sc__law_valueN [(PySem.Str.ofString "_law_script")] (defScope s__law_value) := ⟨rfl, rfl, rfl, by decide +kernel, rfl, by decide +kernel, by decide +kernel⟩
abbrev sc__law_dueN : List Str := [(PySem.Str.ofString "_law_value_here"), (PySem.Str.ofString "_law_letters"), (PySem.Str.ofString "_law_wild"), (PySem.Str.ofString "_law_char"), (PySem.Str.ofString "_law_form")]
theorem sc__law_due : FnScope sc__law_dueN [(PySem.Str.ofString "_law_value_here")] (defScope s__law_due) := ⟨rfl, rfl, rfl, by decide +kernel, rfl, by decide +kernel, by decide +kernel⟩
abbrev sc_is_patternN : List Str := [(PySem.Str.ofString "value"), (PySem.Str.ofString "sign")]
theorem sc_is_pattern : FnScope sc_is_patternN [(PySem.Str.ofString "value")] (defScope s_is_pattern) := ⟨rfl, rfl, rfl, by decide +kernel, rfl, by decide +kernel, by decide +kernel⟩
abbrev sc_check_patternN : List Str := [(PySem.Str.ofString "value")]
theorem sc_check_pattern : FnScope sc_check_patternN [(PySem.Str.ofString "value")] (defScope s_check_pattern) := ⟨rfl, rfl, rfl, by decide +kernel, rfl, by decide +kernel, by decide +kernel⟩
abbrev sc__law_asks_checkN : List Str := [(PySem.Str.ofString "_law_value_here"), (PySem.Str.ofString "_law_form"), (PySem.Str.ofString "_law_answer"), (PySem.Str.ofString "e")]
theorem sc__law_asks_check : FnScope sc__law_asks_checkN [(PySem.Str.ofString "_law_value_here"), (PySem.Str.ofString "_law_form")] (defScope s__law_asks_check) := ⟨rfl, rfl, rfl, by decide +kernel, rfl, by decide +kernel, by decide +kernel⟩
abbrev sc__law_isN : List Str := [(PySem.Str.ofString "_law_actual"), (PySem.Str.ofString "_law_expected")]
theorem sc__law_is : FnScope sc__law_isN [(PySem.Str.ofString "_law_actual"), (PySem.Str.ofString "_law_expected")] (defScope s__law_is) := ⟨rfl, rfl, rfl, by decide +kernel, rfl, by decide +kernel, by decide +kernel⟩
abbrev sc_is_textN : List Str := [(PySem.Str.ofString "value"), (PySem.Str.ofString "char")]
theorem sc_is_text : FnScope sc_is_textN [(PySem.Str.ofString "value")] (defScope s_is_text) := ⟨rfl, rfl, rfl, by decide +kernel, rfl, by decide +kernel, by decide +kernel⟩
abbrev sc_is_plainN : List Str := [(PySem.Str.ofString "pattern")]
theorem sc_is_plain : FnScope sc_is_plainN [(PySem.Str.ofString "pattern")] (defScope s_is_plain) := ⟨rfl, rfl, rfl, by decide +kernel, rfl, by decide +kernel, by decide +kernel⟩
abbrev sc_lawN : List Str := [(PySem.Str.ofString "_law_script"), (PySem.Str.ofString "_law_value_here"), (PySem.Str.ofString "_law_due_here")]
theorem sc_law : FnScope sc_lawN [(PySem.Str.ofString "_law_script")] (defScope s_law) := ⟨rfl, rfl, rfl, by decide +kernel, rfl, by decide +kernel, by decide +kernel⟩
theorem scm_TalkError : FnScope [(PySem.Str.ofString "self"), (PySem.Str.ofString "word"), (PySem.Str.ofString "place")] [(PySem.Str.ofString "self"), (PySem.Str.ofString "word"), (PySem.Str.ofString "place")] (defScope m_TalkError) := ⟨rfl, rfl, rfl, by decide +kernel, rfl, by decide +kernel, by decide +kernel⟩
theorem scm_BadPattern : FnScope [(PySem.Str.ofString "self"), (PySem.Str.ofString "place")] [(PySem.Str.ofString "self"), (PySem.Str.ofString "place")] (defScope m_BadPattern) := ⟨rfl, rfl, rfl, by decide +kernel, rfl, by decide +kernel, by decide +kernel⟩
theorem scm_TooManyPatterns : FnScope [(PySem.Str.ofString "self"), (PySem.Str.ofString "place")] [(PySem.Str.ofString "self"), (PySem.Str.ofString "place")] (defScope m_TooManyPatterns) := ⟨rfl, rfl, rfl, by decide +kernel, rfl, by decide +kernel, by decide +kernel⟩
/-! ### what each def computes -/
def tab_TalkError : List (Str × Bool) := [("TalkError", true), ("BadPattern", true), ("TooManyPatterns", true)]
def tab_BadPattern : List (Str × Bool) := [("TalkError", false), ("BadPattern", true), ("TooManyPatterns", false)]
def tab_TooManyPatterns : List (Str × Bool) := [("TalkError", false), ("BadPattern", false), ("TooManyPatterns", true)]
def tab_ValueError : List (Str × Bool) := [("TalkError", true), ("BadPattern", true), ("TooManyPatterns", true)]
def xcs : List Str := [(PySem.Str.ofString "TalkError"), (PySem.Str.ofString "BadPattern"), (PySem.Str.ofString "TooManyPatterns")]
noncomputable section
def G__law_cell : M Fl :=
  (sSeq (sIf (tst (ap gLtX [.b 1, .v (ap gLen [.b 0])]))
    (sRet (ap gIx [.b 0, .b 1]))
    sNext)
  (sRet (eC (.int 0))))
def F__law_cell : Fn := mkF 2 [0, 1] G__law_cell
def B__law_row_0 : M Fl :=
  (sIf (tst (ap gGe [.b 0, .v (ap gPow [.v (eC (.int 10)), .v (eC (.int 18))])]))
    (sSeq (sDrop (eMut1 gApp 3 (ap gMod [.v (ap gInt [.b 0]), .b 2])))
  (sSet 0 (ap gDiv [.b 0, .b 2])))
    (sSeq (sSet 5 (ap gMod [.v (ap gInt [.v (ap gAdd [.v (ap gAdd [.v (ap gMul [.b 0, .v (eC (.int 48271))]), .v (ap gMul [.b 4, .v (eC (.int 69621))])]), .v (eC (.int 12345))])]), .v (eC (.int 2147483647))]))
  (sSeq (sSet 5 (ap gMod [.v (ap gInt [.v (ap gAdd [.v (ap gAdd [.v (ap gMul [.b 5, .b 5]), .v (ap gMul [.v (eC (.int 16807)), .b 4])]), .v (eC (.int 7))])]), .v (eC (.int 998244353))]))
  (sSeq (sSet 5 (ap gMod [.v (ap gInt [.v (ap gAdd [.v (ap gAdd [.v (ap gMul [.b 5, .b 5]), .v (ap gMul [.v (eC (.int 48271)), .b 4])]), .b 0])]), .v (eC (.int 2147483629))]))
  (sDrop (eMut1 gApp 3 (ap gMod [.v (ap gInt [.v (ap gDiv [.b 5, .v (eC (.int 13))])]), .b 2])))))))
def G__law_row : M Fl :=
  (sSeq (sSet 3 (eLst []))
  (sSeq (sFor (sRng1 (.b 1)) (.n 4)
    B__law_row_0)
  (sRet (eMove 3))))
def F__law_row : Fn := mkF 6 [1, 2] G__law_row
def C__law_value_0 : M O :=
  (ap gIx [.b 1, .b 5])
def C__law_value_1 : M O :=
  (ap gIx [.b 1, .b 5])
def C__law_value_2 : M O :=
  (ap gIx [.b 1, .b 5])
def G__law_value : M Fl :=
  (sSeq (sSet 1 (eC (.str (PySem.Str.ofString "abcdefghijklmnopqrstuvwxyzabc???***xyz?*"))))
  (sSeq (sSet 2 (eC (.str (PySem.Str.ofString "AZ09 \n\t-_.,+!/\\[]^$|(){}"))))
  (sSeq (sSet 3 (ap gMod [.v (ap gInt [.v (eCall F__law_cell [.b 0, .v (eC (.int 0))] [])]), .v (eC (.int 12))]))
  (sSeq (sSet 4 (eComp [5] (sSeqD (eCall F__law_row [.v (eCall F__law_cell [.b 0, .v (eC (.int 1))] []), .b 3, .v (eC (.int 40))] [])) (.n 5) cYes C__law_value_0))
  (sSeq (sIf (cAnd (tst (ap gEq [.v (ap gMod [.v (ap gInt [.v (eCall F__law_cell [.b 0, .v (eC (.int 2))] [])]), .v (eC (.int 3))]), .v (eC (.int 1))])) (tst (ap gGt [.b 3, .v (eC (.int 0))])))
    (sSetIx 4 (ap gMod [.v (ap gInt [.v (eCall F__law_cell [.b 0, .v (eC (.int 3))] [])]), .b 3]) (ap gIx [.b 2, .v (ap gMod [.v (ap gInt [.v (eCall F__law_cell [.b 0, .v (eC (.int 4))] [])]), .v (ap gLen [.b 2])])]))
    sNext)
  (sSeq (sIf (tst (ap gEq [.v (ap gMod [.v (ap gInt [.v (eCall F__law_cell [.b 0, .v (eC (.int 2))] [])]), .v (eC (.int 3))]), .v (eC (.int 2))]))
    (sSet 4 (eComp [5] (sSeqD (eCall F__law_row [.v (eCall F__law_cell [.b 0, .v (eC (.int 1))] []), .b 3, .v (eC (.int 26))] [])) (.n 5) cYes C__law_value_1))
    sNext)
  (sSeq (sIf (tst (ap gEq [.v (ap gMod [.v (ap gInt [.v (eCall F__law_cell [.b 0, .v (eC (.int 5))] [])]), .v (eC (.int 8))]), .v (eC (.int 2))]))
    (sSet 4 (eComp [5] (sSeqD (eCall F__law_row [.v (eCall F__law_cell [.b 0, .v (eC (.int 1))] []), .v (ap gMod [.v (ap gInt [.v (eCall F__law_cell [.b 0, .v (eC (.int 0))] [])]), .v (eC (.int 90))]), .v (eC (.int 26))] [])) (.n 5) cYes C__law_value_2))
    sNext)
  (sSeq (sIf (tst (ap gEq [.v (ap gMod [.v (ap gInt [.v (eCall F__law_cell [.b 0, .v (eC (.int 5))] [])]), .v (eC (.int 8))]), .v (eC (.int 1))]))
    (sRet (ap gIx [.v (eLst [(eC (.int 7)), (eC .non), (eC (.bl true)), (eC (.bl false)), (eLst [(eC (.str (PySem.Str.ofString "a")))]), (eTup [(eC (.str (PySem.Str.ofString "a")))]), (eLst []), (ap gNeg [.v (eC (.int 1))])]), .v (ap gMod [.v (ap gInt [.v (eCall F__law_cell [.b 0, .v (eC (.int 6))] [])]), .v (eC (.int 8))])]))
    sNext)
  (sRet (apM isStr gJoin (.v (eC (.str (PySem.Str.ofString "")))) [.b 4]))))))))))
def F__law_value : Fn := mkF 6 [0] G__law_value
def B__law_due_0 : M Fl :=
  (sSeq (sSet 1 (ap gAdd [.b 1, .v (ap gInt [.v (eChain gLe gLe (eC (.str (PySem.Str.ofString "a"))) (eVar 3) (eC (.str (PySem.Str.ofString "z"))))])]))
  (sSet 2 (ap gAdd [.b 2, .v (ap gInt [.v (eOr (ap gEq [.b 3, .v (eC (.str (PySem.Str.ofString "?")))]) (ap gEq [.b 3, .v (eC (.str (PySem.Str.ofString "*")))]))])])))
def G__law_due : M Fl :=
  (sSeq (sIf (cNot (tst (ap (gIsi "str") [.b 0])))
    (sRet (eTup [(eC (.bl false)), (eC (.bl false)), (eC (.bl false))]))
    sNext)
  (sSeq (sSet 1 (eC (.int 0)))
  (sSeq (sSet 2 (eC (.int 0)))
  (sSeq (sFor (sSeqD (eVar 0)) (.n 3)
    B__law_due_0)
  (sSeq (sSet 4 (eAnd (ap gEq [.v (ap gAdd [.b 1, .b 2]), .v (ap gLen [.b 0])]) (eAnd (ap gLe [.v (ap gLen [.b 0]), .v (eC (.int 8))]) (ap gLe [.v (apM isStr gCount (.b 0) [.v (eC (.str (PySem.Str.ofString "*")))]), .v (eC (.int 2))]))))
  (sRet (eTup [(ap gEq [.b 1, .v (ap gLen [.b 0])]), (eVar 4), (eAnd (eVar 4) (ap gEq [.b 2, .v (eC (.int 0))]))])))))))
def F__law_due : Fn := mkF 5 [0] G__law_due
def C_is_pattern_0 : M O :=
  (eOr (ap gIn [.b 1, .v (eC (.str (PySem.Str.ofString "abcdefghijklmnopqrstuvwxyz")))]) (ap gIn [.b 1, .v (eC (.str (PySem.Str.ofString "?*")))]))
def G_is_pattern : M Fl :=
  (sSeq (sIf (cOr (cNot (tst (ap (gIsi "str") [.b 0]))) (tst (ap gGt [.v (ap gLen [.b 0]), .v (eC (.int 8))])))
    (sRet (eC (.bl false)))
    sNext)
  (sSeq (sIf (tst (ap gGt [.v (apM isStr gCount (.b 0) [.v (eC (.str (PySem.Str.ofString "*")))]), .v (eC (.int 2))]))
    (sRet (eC (.bl false)))
    sNext)
  (sRet (ap gAll [.v (eComp [1] (sSeqD (eVar 0)) (.n 1) cYes C_is_pattern_0)]))))
def F_is_pattern : Fn := mkF 2 [0] G_is_pattern
def G_check_pattern : M Fl :=
  (sIf (cNot (tst (eCall F_is_pattern [.b 0] [])))
    (sRaise "BadPattern" (eVar 0))
    sNext)
def F_check_pattern : Fn := mkF 1 [0] G_check_pattern
def H__law_asks_check_0 (a d : Addr) (y : Exn) : M Fl :=
  (sSeq (sIf (cOr (tru (.b 1)) (cOr (cNot (tst (eXi (isaL tab_BadPattern) a d y 3))) (cOr (tst (eXi (isaL tab_TooManyPatterns) a d y 3)) (cNot (tst (eXi (isaL tab_ValueError) a d y 3))))))
    (sRet (eC (.bl false)))
    sNext)
  (sRet (eAnd (ap gEq [.v (eXf xcs a d y 3 "word"), .v (eC (.str (PySem.Str.ofString "BadPattern")))]) (ap gEq [.v (ap gRepr [.v (eXf xcs a d y 3 "place")]), .v (ap gRepr [.b 0])]))))
def G__law_asks_check : M Fl :=
  (sSeq (sTry (isaL tab_TalkError) 3
    (sSet 2 (eCall F_check_pattern [.b 0] []))
    H__law_asks_check_0)
  (sRet (eAnd (eVar 1) (ap gIsN [.b 2, .v (eC .non)]))))
def F__law_asks_check : Fn := mkF 4 [0, 1] G__law_asks_check
def G__law_is : M Fl :=
  (sRet (eAnd (ap (gIsi "bool") [.b 0]) (ap gEq [.b 0, .b 1])))
def F__law_is : Fn := mkF 2 [0, 1] G__law_is
def C_is_text_0 : M O :=
  (ap gIn [.b 1, .v (eC (.str (PySem.Str.ofString "abcdefghijklmnopqrstuvwxyz")))])
def G_is_text : M Fl :=
  (sRet (eAnd (ap (gIsi "str") [.b 0]) (ap gAll [.v (eComp [1] (sSeqD (eVar 0)) (.n 1) cYes C_is_text_0)])))
def F_is_text : Fn := mkF 2 [0] G_is_text
def G_is_plain : M Fl :=
  (sRet (eAnd (ap gNotIn [.v (eC (.str (PySem.Str.ofString "?"))), .b 0]) (ap gNotIn [.v (eC (.str (PySem.Str.ofString "*"))), .b 0])))
def F_is_plain : Fn := mkF 1 [0] G_is_plain
def G_law : M Fl :=
  (sSeq (sIf (tst (ap gNe [.v (eC (.str (PySem.Str.ofString "abcdefghijklmnopqrstuvwxyz"))), .v (eC (.str (PySem.Str.ofString "abcdefghijklmnopqrstuvwxyz")))]))
    (sRet (eC (.bl false)))
    sNext)
  (sSeq (sSet 1 (eCall F__law_value [.b 0] []))
  (sSeq (sSet 2 (eCall F__law_due [.b 1] []))
  (sSeq (sIf (cOr (cNot (tst (eCall F__law_is [.v (eCall F_is_text [.b 1] []), .v (ap gIx [.b 2, .v (eC (.int 0))])] []))) (cNot (tst (eCall F__law_is [.v (eCall F_is_pattern [.b 1] []), .v (ap gIx [.b 2, .v (eC (.int 1))])] []))))
    (sRet (eC (.bl false)))
    sNext)
  (sSeq (sIf (cAnd (tst (ap gIx [.b 2, .v (eC (.int 1))])) (cNot (tst (eCall F__law_is [.v (eCall F_is_plain [.b 1] []), .v (ap gIx [.b 2, .v (eC (.int 2))])] []))))
    (sRet (eC (.bl false)))
    sNext)
  (sRet (eCall F__law_asks_check [.b 1, .v (ap gIx [.b 2, .v (eC (.int 1))])] [])))))))
def F_law : Fn := mkF 3 [0] G_law
end
/-! ### each def computes it -/
section
variable {P : Program} {w : World} {K : PySem.W.Frag} {mg : Str → Option Value} {base : Heap}
theorem ok_init_TalkError {f : Addr} {fd : FuncData} (F : FunX K "__init__" "TalkError.__init__" m_TalkError f fd) : FnOk P w K mg base (L2N.CX P w) 1 f fd ["self", "word", "place"] (spT K) :=
  ok_initT (k := 0) F scm_TalkError fun cdv A outer s H E => by exact (pss_cons (ps_ost (pv 0) (pv 1)) (pss_one (ps_ost (pv 0) (pv 2))))
theorem ok_init_BadPattern {f : Addr} {fd : FuncData} (F : FunX K "__init__" "BadPattern.__init__" m_BadPattern f fd) (E0 : Er0 P w K mg base 1 "TalkError") : FnOk P w K mg base (L2N.CX P w) 2 f fd ["self", "place"] (spB K "BadPattern") :=
  ok_initC (k := 1) F scm_BadPattern E0 fun C f0 fd0 h1 h2 h3 h4 h5 h6 cdv A outer s H E hr tk => by exact (pss_one (ps_expr (pe_cfun h5 hr rfl h1 h2 h3 h4 h6 (L2N.passes_call tk fun _ _ _ _ z => z.elim) (pa_cons (pv 0) (pa_cons pe_str (pa_cons (pv 1) pa_nil))))))
set_option maxHeartbeats 4000000 in
theorem ok__law_cell {f : Addr} {fd : FuncData} (F : Fun K "_law_cell" "_law_cell" s__law_cell f fd) (m_len : mg "len" = none) : FnOk P w K mg base (L2N.CX P w) 1 f fd [(PySem.Str.ofString "_law_script"), (PySem.Str.ofString "_law_k")] (spD K mg 2 F__law_cell) :=
  fn_dn (k := 0) (ks := [0, 1]) (g := G__law_cell) (N := sc__law_cellN) (ps := [(PySem.Str.ofString "_law_script"), (PySem.Str.ofString "_law_k")]) F sc__law_cell 2 2 rfl rfl (fun cdv A outer s H E hr tk hp => by
    have hu := hr.units
    have hu5 := hr.units5
    exact (ss_cons (s_if (c_cmp (o_ltX hu) n_ltX (p_b (pv 1)) (p_v (d_cb call_len n_len rfl m_len bt_len (pa_c (p_b (pv 0)) pa_n))) (nomark _))
    (ss_one (s_ret (d_ix (ix_any hu) n_ix (p_b (pv 0)) (p_b (pv 1)) (fun _ _ => rfl))))
    ss_nil)
  (ss_one (s_ret d_int))))
set_option maxHeartbeats 4000000 in
theorem ok__law_row {f : Addr} {fd : FuncData} (F : Fun K "_law_row" "_law_row" s__law_row f fd) (m_int : mg "int" = none) (m_range : mg "range" = none) : FnOk P w K mg base (L2N.CX P w) 1 f fd [(PySem.Str.ofString "_law_cell_here"), (PySem.Str.ofString "_law_count"), (PySem.Str.ofString "_law_base")] (spD K mg 3 F__law_row) :=
  fn_dn (k := 0) (ks := [1, 2]) (g := G__law_row) (N := sc__law_rowN) (ps := [(PySem.Str.ofString "_law_cell_here"), (PySem.Str.ofString "_law_count"), (PySem.Str.ofString "_law_base")]) F sc__law_row 3 6 rfl rfl (fun cdv A outer s H E hr tk hp => by
    have hu := hr.units
    have hu5 := hr.units5
    exact (ss_cons (s_set (i := 3) sc__law_row.nd rfl (Or.inl rfl) (d_lst is_n))
  (ss_cons (s_for hp rfl (i_rng1 rfl m_range (pa_c (p_b (pv 1)) pa_n)) (pg_name (i := 4) sc__law_row.nd rfl (Or.inl rfl))
    (ss_one (s_if (c_cmp (o_ge hu) n_ge (p_b (pv 0)) (p_v (d_op op_pow n_pow (p_v d_int) (p_v d_int))) (nomark _))
    (ss_cons (s_drop (d_mut1 (pv 3) PySem.F.slot_list_append PySem.F.type_list_append mt_append u_app (d_op op_modN n_mod (p_v (d_ct call_int12 n_int rfl m_int bt_int (pa_c (p_b (pv 0)) pa_n))) (p_b (pv 2)))))
  (ss_one (s_set (i := 0) sc__law_row.nd rfl (Or.inl rfl) (d_op op_fdivN n_div (p_b (pv 0)) (p_b (pv 2))))))
    (ss_cons (s_set (i := 5) sc__law_row.nd rfl (Or.inl rfl) (d_op op_modN n_mod (p_v (d_ct call_int12 n_int rfl m_int bt_int (pa_c (p_v (d_op o_add n_add (p_v (d_op o_add n_add (p_v (d_op op_mul n_mul (p_b (pv 0)) (p_v d_int))) (p_v (d_op op_mul n_mul (p_b (pv 4)) (p_v d_int))))) (p_v d_int))) pa_n))) (p_v d_int)))
  (ss_cons (s_set (i := 5) sc__law_row.nd rfl (Or.inl rfl) (d_op op_modN n_mod (p_v (d_ct call_int12 n_int rfl m_int bt_int (pa_c (p_v (d_op o_add n_add (p_v (d_op o_add n_add (p_v (d_op op_mul n_mul (p_b (pv 5)) (p_b (pv 5)))) (p_v (d_op op_mul n_mul (p_v d_int) (p_b (pv 4)))))) (p_v d_int))) pa_n))) (p_v d_int)))
  (ss_cons (s_set (i := 5) sc__law_row.nd rfl (Or.inl rfl) (d_op op_modN n_mod (p_v (d_ct call_int12 n_int rfl m_int bt_int (pa_c (p_v (d_op o_add n_add (p_v (d_op o_add n_add (p_v (d_op op_mul n_mul (p_b (pv 5)) (p_b (pv 5)))) (p_v (d_op op_mul n_mul (p_v d_int) (p_b (pv 4)))))) (p_b (pv 0)))) pa_n))) (p_v d_int)))
  (ss_one (s_drop (d_mut1 (pv 3) PySem.F.slot_list_append PySem.F.type_list_append mt_append u_app (d_op op_modN n_mod (p_v (d_ct call_int12 n_int rfl m_int bt_int (pa_c (p_v (d_op op_fdivN n_div (p_b (pv 5)) (p_v d_int))) pa_n))) (p_b (pv 2))))))))))) (by decide))
  (ss_one (s_ret (d_move (pv 3)))))))
set_option maxHeartbeats 4000000 in
theorem ok__law_value {f : Addr} {fd : FuncData} (F : Fun K "_law_value" "_law_value" s__law_value f fd) (c__law_cell : Cl P w K mg base 1 "_law_cell" 2 F__law_cell []) (c__law_row : Cl P w K mg base 1 "_law_row" 3 F__law_row []) (m_int : mg "int" = none) (m_len : mg "len" = none) : FnOk P w K mg base (L2N.CX P w) 2 f fd [(PySem.Str.ofString "_law_script")] (spD K mg 1 F__law_value) :=
  fn_dn (k := 1) (ks := [0]) (g := G__law_value) (N := sc__law_valueN) (ps := [(PySem.Str.ofString "_law_script")]) F sc__law_value 1 6 rfl rfl (fun cdv A outer s H E hr tk hp => by
    have hu := hr.units
    have hu5 := hr.units5
    exact (ss_cons (s_set (i := 1) sc__law_value.nd rfl (Or.inr rfl) d_str)
  (ss_cons (s_set (i := 2) sc__law_value.nd rfl (Or.inl rfl) d_str)
  (ss_cons (s_set (i := 3) sc__law_value.nd rfl (Or.inl rfl) (d_op op_modN n_mod (p_v (d_ct call_int12 n_int rfl m_int bt_int (pa_c (p_v (d_call c__law_cell hr tk (pa_c (p_b (pv 0)) (pa_c (p_v d_int) pa_n)))) pa_n))) (p_v d_int)))
  (ss_cons (s_setLc (i := 4) (own := [(PySem.Str.ofString "_law_k", 5)]) rfl sc__law_value.nd rfl rfl (sw_true rfl rfl rfl (by decide +kernel)) (i_seq (d_call c__law_row hr tk (pa_c (p_v (d_call c__law_cell hr tk (pa_c (p_b (pv 0)) (pa_c (p_v d_int) pa_n)))) (pa_c (p_b (pv 3)) (pa_c (p_v d_int) pa_n))))) (blkOk_by (N := sc__law_valueN) (sc := defScope s__law_value) (by decide +kernel)) (fun _ _ _ _ _ => (pg_name (i := 5) sc__law_value.nd rfl (Or.inl rfl))) (fun _ _ _ _ _ => pts_y) (fun _ _ _ _ _ => (d_ix (ix_any hu) n_ix (p_b (pv 1)) (p_b (pv 5)) (fun _ _ => rfl))) (by decide))
  (ss_cons (s_if (c_w (w_and (c_cmp (o_eq hu) n_eq (p_v (d_op op_modN n_mod (p_v (d_ct call_int12 n_int rfl m_int bt_int (pa_c (p_v (d_call c__law_cell hr tk (pa_c (p_b (pv 0)) (pa_c (p_v d_int) pa_n)))) pa_n))) (p_v d_int))) (p_v d_int) (nomark _)) (w_one (c_cmp (o_gt hu) n_gt (p_b (pv 3)) (p_v d_int) (nomark _)))))
    (ss_one (s_setIx (pv 4) (d_op op_modN n_mod (p_v (d_ct call_int12 n_int rfl m_int bt_int (pa_c (p_v (d_call c__law_cell hr tk (pa_c (p_b (pv 0)) (pa_c (p_v d_int) pa_n)))) pa_n))) (p_b (pv 3))) (d_ix (ix_any hu) n_ix (p_b (pv 2)) (p_v (d_op op_modN n_mod (p_v (d_ct call_int12 n_int rfl m_int bt_int (pa_c (p_v (d_call c__law_cell hr tk (pa_c (p_b (pv 0)) (pa_c (p_v d_int) pa_n)))) pa_n))) (p_v (d_cb call_len n_len rfl m_len bt_len (pa_c (p_b (pv 2)) pa_n))))) (fun _ _ => rfl))))
    ss_nil)
  (ss_cons (s_if (c_cmp (o_eq hu) n_eq (p_v (d_op op_modN n_mod (p_v (d_ct call_int12 n_int rfl m_int bt_int (pa_c (p_v (d_call c__law_cell hr tk (pa_c (p_b (pv 0)) (pa_c (p_v d_int) pa_n)))) pa_n))) (p_v d_int))) (p_v d_int) (nomark _))
    (ss_one (s_setLc (i := 4) (own := [(PySem.Str.ofString "_law_k", 5)]) rfl sc__law_value.nd rfl rfl (sw_true rfl rfl rfl (by decide +kernel)) (i_seq (d_call c__law_row hr tk (pa_c (p_v (d_call c__law_cell hr tk (pa_c (p_b (pv 0)) (pa_c (p_v d_int) pa_n)))) (pa_c (p_b (pv 3)) (pa_c (p_v d_int) pa_n))))) (blkOk_by (N := sc__law_valueN) (sc := defScope s__law_value) (by decide +kernel)) (fun _ _ _ _ _ => (pg_name (i := 5) sc__law_value.nd rfl (Or.inl rfl))) (fun _ _ _ _ _ => pts_y) (fun _ _ _ _ _ => (d_ix (ix_any hu) n_ix (p_b (pv 1)) (p_b (pv 5)) (fun _ _ => rfl))) (by decide)))
    ss_nil)
  (ss_cons (s_if (c_cmp (o_eq hu) n_eq (p_v (d_op op_modN n_mod (p_v (d_ct call_int12 n_int rfl m_int bt_int (pa_c (p_v (d_call c__law_cell hr tk (pa_c (p_b (pv 0)) (pa_c (p_v d_int) pa_n)))) pa_n))) (p_v d_int))) (p_v d_int) (nomark _))
    (ss_one (s_setLc (i := 4) (own := [(PySem.Str.ofString "_law_k", 5)]) rfl sc__law_value.nd rfl rfl (sw_true rfl rfl rfl (by decide +kernel)) (i_seq (d_call c__law_row hr tk (pa_c (p_v (d_call c__law_cell hr tk (pa_c (p_b (pv 0)) (pa_c (p_v d_int) pa_n)))) (pa_c (p_v (d_op op_modN n_mod (p_v (d_ct call_int12 n_int rfl m_int bt_int (pa_c (p_v (d_call c__law_cell hr tk (pa_c (p_b (pv 0)) (pa_c (p_v d_int) pa_n)))) pa_n))) (p_v d_int))) (pa_c (p_v d_int) pa_n))))) (blkOk_by (N := sc__law_valueN) (sc := defScope s__law_value) (by decide +kernel)) (fun _ _ _ _ _ => (pg_name (i := 5) sc__law_value.nd rfl (Or.inl rfl))) (fun _ _ _ _ _ => pts_y) (fun _ _ _ _ _ => (d_ix (ix_any hu) n_ix (p_b (pv 1)) (p_b (pv 5)) (fun _ _ => rfl))) (by decide)))
    ss_nil)
  (ss_cons (s_if (c_cmp (o_eq hu) n_eq (p_v (d_op op_modN n_mod (p_v (d_ct call_int12 n_int rfl m_int bt_int (pa_c (p_v (d_call c__law_cell hr tk (pa_c (p_b (pv 0)) (pa_c (p_v d_int) pa_n)))) pa_n))) (p_v d_int))) (p_v d_int) (nomark _))
    (ss_one (s_ret (d_ix (ix_any hu) n_ix (p_v (d_lst (is_c d_int (is_c d_non (is_c d_bl (is_c d_bl (is_c (d_lst (is_c d_str is_n)) (is_c (d_tup (is_c d_str is_n)) (is_c (d_lst is_n) (is_c (d_un un_neg n_neg (p_v d_int)) is_n)))))))))) (p_v (d_op op_modN n_mod (p_v (d_ct call_int12 n_int rfl m_int bt_int (pa_c (p_v (d_call c__law_cell hr tk (pa_c (p_b (pv 0)) (pa_c (p_v d_int) pa_n)))) pa_n))) (p_v d_int))) (fun _ _ => rfl))))
    ss_nil)
  (ss_one (s_ret (d_m1 PySem.F.slot_str_join PySem.F.type_str_join mt_join n_join (p_v d_str) (p_b (pv 4))))))))))))))
set_option maxHeartbeats 4000000 in
theorem ok__law_due {f : Addr} {fd : FuncData} (F : Fun K "_law_due" "_law_due" s__law_due f fd) (m_int : mg "int" = none) (m_isinstance : mg "isinstance" = none) (m_len : mg "len" = none) (m_str : mg "str" = none) : FnOk P w K mg base (L2N.CX P w) 1 f fd [(PySem.Str.ofString "_law_value_here")] (spD K mg 1 F__law_due) :=
  fn_dn (k := 0) (ks := [0]) (g := G__law_due) (N := sc__law_dueN) (ps := [(PySem.Str.ofString "_law_value_here")]) F sc__law_due 1 5 rfl rfl (fun cdv A outer s H E hr tk hp => by
    have hu := hr.units
    have hu5 := hr.units5
    exact (ss_cons (s_if (c_not (c_tst (d_isi rfl m_isinstance rfl m_str bt_str bt_isinstance (p_b (pv 0)))))
    (ss_one (s_ret (d_tup (is_c d_bl (is_c d_bl (is_c d_bl is_n))))))
    ss_nil)
  (ss_cons (s_set (i := 1) sc__law_due.nd rfl (Or.inl rfl) d_int)
  (ss_cons (s_set (i := 2) sc__law_due.nd rfl (Or.inl rfl) d_int)
  (ss_cons (s_for hp rfl (i_seq (d_var (pv 0))) (pg_name (i := 3) sc__law_due.nd rfl (Or.inl rfl))
    (ss_cons (s_set (i := 1) sc__law_due.nd rfl (Or.inl rfl) (d_op o_add n_add (p_b (pv 1)) (p_v (d_ct call_int12 n_int rfl m_int bt_int (pa_c (p_v (d_chain (o_le hu) n_le (o_le hu) n_le d_str (d_var (pv 3)) d_str)) pa_n)))))
  (ss_one (s_set (i := 2) sc__law_due.nd rfl (Or.inl rfl) (d_op o_add n_add (p_b (pv 2)) (p_v (d_ct call_int12 n_int rfl m_int bt_int (pa_c (p_v (d_or (d_cmp (o_eq hu) n_eq (p_b (pv 3)) (p_v d_str) (nomark _)) (d_one (d_cmp (o_eq hu) n_eq (p_b (pv 3)) (p_v d_str) (nomark _))))) pa_n))))))) (by decide))
  (ss_cons (s_set (i := 4) sc__law_due.nd rfl (Or.inl rfl) (d_and (d_cmp (o_eq hu) n_eq (p_v (d_op o_add n_add (p_b (pv 1)) (p_b (pv 2)))) (p_v (d_cb call_len n_len rfl m_len bt_len (pa_c (p_b (pv 0)) pa_n))) (nomark _)) (d_and (d_cmp (o_le hu) n_le (p_v (d_cb call_len n_len rfl m_len bt_len (pa_c (p_b (pv 0)) pa_n))) (p_v d_int) (nomark _)) (d_one (d_cmp (o_le hu) n_le (p_v (d_m1 PySem.F.slot_str_count PySem.F.type_str_count mt_count n_count (p_b (pv 0)) (p_v d_str))) (p_v d_int) (nomark _))))))
  (ss_one (s_ret (d_tup (is_c (d_cmp (o_eq hu) n_eq (p_b (pv 1)) (p_v (d_cb call_len n_len rfl m_len bt_len (pa_c (p_b (pv 0)) pa_n))) (nomark _)) (is_c (d_var (pv 4)) (is_c (d_and (d_var (pv 4)) (d_one (d_cmp (o_eq hu) n_eq (p_b (pv 2)) (p_v d_int) (nomark _)))) is_n))))))))))))
set_option maxHeartbeats 4000000 in
theorem ok_is_pattern {f : Addr} {fd : FuncData} (F : Fun K "is_pattern" "is_pattern" s_is_pattern f fd) (g_LETTERS : ∃ u, mg "LETTERS" = some u ∧ RelV (.str (PySem.Str.ofString "abcdefghijklmnopqrstuvwxyz")) u) (g_SIGNS_MOST : ∃ u, mg "SIGNS_MOST" = some u ∧ RelV (.int 8) u) (g_STARS_MOST : ∃ u, mg "STARS_MOST" = some u ∧ RelV (.int 2) u) (m_all : mg "all" = none) (m_isinstance : mg "isinstance" = none) (m_len : mg "len" = none) (m_str : mg "str" = none) : FnOk P w K mg base (L2N.CX P w) 1 f fd [(PySem.Str.ofString "value")] (spD K mg 1 F_is_pattern) :=
  fn_dn (k := 0) (ks := [0]) (g := G_is_pattern) (N := sc_is_patternN) (ps := [(PySem.Str.ofString "value")]) F sc_is_pattern 1 2 rfl rfl (fun cdv A outer s H E hr tk hp => by
    have hu := hr.units
    have hu5 := hr.units5
    exact (ss_cons (s_if (c_w (w_or (c_not (c_tst (d_isi rfl m_isinstance rfl m_str bt_str bt_isinstance (p_b (pv 0))))) (w_one (c_cmp (o_gt hu) n_gt (p_v (d_cb call_len n_len rfl m_len bt_len (pa_c (p_b (pv 0)) pa_n))) (p_v (d_g (by rfl) g_SIGNS_MOST (fun _ => .int _))) (nomark _)))))
    (ss_one (s_ret d_bl))
    ss_nil)
  (ss_cons (s_if (c_cmp (o_gt hu) n_gt (p_v (d_m1 PySem.F.slot_str_count PySem.F.type_str_count mt_count n_count (p_b (pv 0)) (p_v d_str))) (p_v (d_g (by rfl) g_STARS_MOST (fun _ => .int _))) (nomark _))
    (ss_one (s_ret d_bl))
    ss_nil)
  (ss_one (s_ret (d_cb (cr_all rfl) n_all rfl m_all bt_all (pa_c (p_v (d_comp (own := [(PySem.Str.ofString "sign", 1)]) rfl sc_is_pattern.nd (i_seq (d_var (pv 0))) (blkOk_by (N := sc_is_patternN) (sc := defScope s_is_pattern) (by decide +kernel)) (fun _ _ _ _ _ => (pg_name (i := 1) sc_is_pattern.nd rfl (Or.inl rfl))) (fun _ _ _ _ _ => pts_y) (fun _ _ _ _ _ => (d_or (d_cmp (o_in hu5) n_in (p_b (pv 1)) (p_v (d_g (by rfl) g_LETTERS (fun _ => .str _))) (by rfl)) (d_one (d_cmp (o_in hu5) n_in (p_b (pv 1)) (p_v d_str) (by rfl))))) (by decide))) pa_n)))))))
set_option maxHeartbeats 4000000 in
theorem ok_check_pattern {f : Addr} {fd : FuncData} (F : Fun K "check_pattern" "check_pattern" s_check_pattern f fd) (c_is_pattern : Cl P w K mg base 1 "is_pattern" 1 F_is_pattern []) (e_BadPattern : Er P w K mg base 2 "BadPattern") : FnOk P w K mg base (L2N.CX P w) 4 f fd [(PySem.Str.ofString "value")] (spD K mg 1 F_check_pattern) :=
  fn_dn (k := 3) (ks := [0]) (g := G_check_pattern) (N := sc_check_patternN) (ps := [(PySem.Str.ofString "value")]) F sc_check_pattern 1 1 rfl rfl (fun cdv A outer s H E hr tk hp => by
    have hu := hr.units
    have hu5 := hr.units5
    exact (ss_one (s_if (c_not (c_tst (d_call c_is_pattern hr tk (pa_c (p_b (pv 0)) pa_n))))
    (ss_one (s_raise e_BadPattern hr tk (d_var (pv 0))))
    ss_nil)))
set_option maxHeartbeats 4000000 in
theorem ok__law_asks_check {f : Addr} {fd : FuncData} (F : Fun K "_law_asks_check" "_law_asks_check" s__law_asks_check f fd) (c_check_pattern : Cl P w K mg base 4 "check_pattern" 1 F_check_pattern []) (k_TalkError : Ec K mg tab_TalkError "TalkError") (m_isinstance : mg "isinstance" = none) (m_repr : mg "repr" = none) (xT : XfT K mg xcs) (x_BadPattern : Ic K mg tab_BadPattern "BadPattern") (x_TooManyPatterns : Ic K mg tab_TooManyPatterns "TooManyPatterns") (x_ValueError : Ib K mg tab_ValueError "ValueError" "ValueError") : FnG P w K mg base (L2N.CX P w) 5 f fd [(PySem.Str.ofString "_law_value_here"), (PySem.Str.ofString "_law_form")] (spD K mg 2 F__law_asks_check) :=
  fn_dnG (k := 4) (ks := [0, 1]) (g := G__law_asks_check) (N := sc__law_asks_checkN) (ps := [(PySem.Str.ofString "_law_value_here"), (PySem.Str.ofString "_law_form")]) F sc__law_asks_check 2 4 rfl rfl (fun cdv A outer s H E hgu hr tk hp => by
    have hu := hr.units
    have hu5 := hr.units5
    exact (ss_cons (s_tryc (i := 3) sc__law_asks_check.nd rfl k_TalkError tk (fun W pn xe tk hp =>
    (ss_one (s_set (i := 2) sc__law_asks_check.nd rfl (Or.inl rfl) (d_call c_check_pattern hr tk (pa_c (p_b (pv 0)) pa_n))))) (fun a oe C d y pn hC hz hf => by
      exact (ss_cons (s_if (c_w (w_or (c_tru (p_b (pv 1))) (w_or (c_not (c_tst (d_xic x_BadPattern m_isinstance bt_isinstance hC hz hf (pv 3)))) (w_or (c_tst (d_xic x_TooManyPatterns m_isinstance bt_isinstance hC hz hf (pv 3))) (w_one (c_not (c_tst (d_xib x_ValueError m_isinstance bt_isinstance hC hz hf (pv 3)))))))))
    (ss_one (s_ret d_bl))
    ss_nil)
  (ss_one (s_ret (d_and (d_cmp (o_eq hu) n_eq (p_v (d_xf xT (.inl rfl) hC hz hf (pv 3))) (p_v d_str) (nomark _)) (d_one (d_cmp (o_eq hu) n_eq (p_v (d_cb (call_repr hgu hr.units80) n_repr rfl m_repr bt_repr (pa_c (p_v (d_xf xT (.inr rfl) hC hz hf (pv 3))) pa_n))) (p_v (d_cb (call_repr hgu hr.units80) n_repr rfl m_repr bt_repr (pa_c (p_b (pv 0)) pa_n))) (nomark _)))))))))
  (ss_one (s_ret (d_and (d_var (pv 1)) (d_one (d_cmp o_is n_is (p_b (pv 2)) (p_v d_non) (nomark _))))))))
set_option maxHeartbeats 4000000 in
theorem ok__law_is {f : Addr} {fd : FuncData} (F : Fun K "_law_is" "_law_is" s__law_is f fd) (m_bool : mg "bool" = none) (m_isinstance : mg "isinstance" = none) : FnOk P w K mg base (L2N.CX P w) 1 f fd [(PySem.Str.ofString "_law_actual"), (PySem.Str.ofString "_law_expected")] (spD K mg 2 F__law_is) :=
  fn_dn (k := 0) (ks := [0, 1]) (g := G__law_is) (N := sc__law_isN) (ps := [(PySem.Str.ofString "_law_actual"), (PySem.Str.ofString "_law_expected")]) F sc__law_is 2 2 rfl rfl (fun cdv A outer s H E hr tk hp => by
    have hu := hr.units
    have hu5 := hr.units5
    exact (ss_one (s_ret (d_and (d_isi rfl m_isinstance rfl m_bool bt_bool bt_isinstance (p_b (pv 0))) (d_one (d_cmp (o_eq hu) n_eq (p_b (pv 0)) (p_b (pv 1)) (nomark _)))))))
set_option maxHeartbeats 4000000 in
theorem ok_is_text {f : Addr} {fd : FuncData} (F : Fun K "is_text" "is_text" s_is_text f fd) (g_LETTERS : ∃ u, mg "LETTERS" = some u ∧ RelV (.str (PySem.Str.ofString "abcdefghijklmnopqrstuvwxyz")) u) (m_all : mg "all" = none) (m_isinstance : mg "isinstance" = none) (m_str : mg "str" = none) : FnOk P w K mg base (L2N.CX P w) 1 f fd [(PySem.Str.ofString "value")] (spD K mg 1 F_is_text) :=
  fn_dn (k := 0) (ks := [0]) (g := G_is_text) (N := sc_is_textN) (ps := [(PySem.Str.ofString "value")]) F sc_is_text 1 2 rfl rfl (fun cdv A outer s H E hr tk hp => by
    have hu := hr.units
    have hu5 := hr.units5
    exact (ss_one (s_ret (d_and (d_isi rfl m_isinstance rfl m_str bt_str bt_isinstance (p_b (pv 0))) (d_one (d_cb (cr_all rfl) n_all rfl m_all bt_all (pa_c (p_v (d_comp (own := [(PySem.Str.ofString "char", 1)]) rfl sc_is_text.nd (i_seq (d_var (pv 0))) (blkOk_by (N := sc_is_textN) (sc := defScope s_is_text) (by decide +kernel)) (fun _ _ _ _ _ => (pg_name (i := 1) sc_is_text.nd rfl (Or.inl rfl))) (fun _ _ _ _ _ => pts_y) (fun _ _ _ _ _ => (d_cmp (o_in hu5) n_in (p_b (pv 1)) (p_v (d_g (by rfl) g_LETTERS (fun _ => .str _))) (by rfl))) (by decide))) pa_n)))))))
set_option maxHeartbeats 4000000 in
theorem ok_is_plain {f : Addr} {fd : FuncData} (F : Fun K "is_plain" "is_plain" s_is_plain f fd)  : FnOk P w K mg base (L2N.CX P w) 1 f fd [(PySem.Str.ofString "pattern")] (spD K mg 1 F_is_plain) :=
  fn_dn (k := 0) (ks := [0]) (g := G_is_plain) (N := sc_is_plainN) (ps := [(PySem.Str.ofString "pattern")]) F sc_is_plain 1 1 rfl rfl (fun cdv A outer s H E hr tk hp => by
    have hu := hr.units
    have hu5 := hr.units5
    exact (ss_one (s_ret (d_and (d_cmp (o_notin hu5) n_notin (p_v d_str) (p_b (pv 0)) (by rfl)) (d_one (d_cmp (o_notin hu5) n_notin (p_v d_str) (p_b (pv 0)) (by rfl)))))))
set_option maxHeartbeats 4000000 in
theorem ok_law {f : Addr} {fd : FuncData} (F : Fun K "law" "law" s_law f fd) (c__law_asks_check : ClG P w K mg base 5 "_law_asks_check" 2 F__law_asks_check []) (c__law_due : Cl P w K mg base 1 "_law_due" 1 F__law_due []) (c__law_is : Cl P w K mg base 1 "_law_is" 2 F__law_is []) (c__law_value : Cl P w K mg base 2 "_law_value" 1 F__law_value []) (c_is_pattern : Cl P w K mg base 1 "is_pattern" 1 F_is_pattern []) (c_is_plain : Cl P w K mg base 1 "is_plain" 1 F_is_plain []) (c_is_text : Cl P w K mg base 1 "is_text" 1 F_is_text []) (g_LETTERS : ∃ u, mg "LETTERS" = some u ∧ RelV (.str (PySem.Str.ofString "abcdefghijklmnopqrstuvwxyz")) u) : FnG P w K mg base (L2N.CX P w) 6 f fd [(PySem.Str.ofString "_law_script")] (spD K mg 1 F_law) :=
  fn_dnG (k := 5) (ks := [0]) (g := G_law) (N := sc_lawN) (ps := [(PySem.Str.ofString "_law_script")]) F sc_law 1 3 rfl rfl (fun cdv A outer s H E hgu hr tk hp => by
    have hu := hr.units
    have hu5 := hr.units5
    exact (ss_cons (s_if (c_cmp (o_ne hu) n_ne (p_v (d_g (by rfl) g_LETTERS (fun _ => .str _))) (p_v d_str) (nomark _))
    (ss_one (s_ret d_bl))
    ss_nil)
  (ss_cons (s_set (i := 1) sc_law.nd rfl (Or.inl rfl) (d_call c__law_value hr tk (pa_c (p_b (pv 0)) pa_n)))
  (ss_cons (s_set (i := 2) sc_law.nd rfl (Or.inl rfl) (d_call c__law_due hr tk (pa_c (p_b (pv 1)) pa_n)))
  (ss_cons (s_if (c_w (w_or (c_not (c_tst (d_call c__law_is hr tk (pa_c (p_v (d_call c_is_text hr tk (pa_c (p_b (pv 1)) pa_n))) (pa_c (p_v (d_ix (ix_any hu) n_ix (p_b (pv 2)) (p_v d_int) (fun _ _ => rfl))) pa_n))))) (w_one (c_not (c_tst (d_call c__law_is hr tk (pa_c (p_v (d_call c_is_pattern hr tk (pa_c (p_b (pv 1)) pa_n))) (pa_c (p_v (d_ix (ix_any hu) n_ix (p_b (pv 2)) (p_v d_int) (fun _ _ => rfl))) pa_n))))))))
    (ss_one (s_ret d_bl))
    ss_nil)
  (ss_cons (s_if (c_w (w_and (c_tst (d_ix (ix_any hu) n_ix (p_b (pv 2)) (p_v d_int) (fun _ _ => rfl))) (w_one (c_not (c_tst (d_call c__law_is hr tk (pa_c (p_v (d_call c_is_plain hr tk (pa_c (p_b (pv 1)) pa_n))) (pa_c (p_v (d_ix (ix_any hu) n_ix (p_b (pv 2)) (p_v d_int) (fun _ _ => rfl))) pa_n))))))))
    (ss_one (s_ret d_bl))
    ss_nil)
  (ss_one (s_ret (d_callG c__law_asks_check hgu hr tk (pa_c (p_b (pv 1)) (pa_c (p_v (d_ix (ix_any hu) n_ix (p_b (pv 2)) (p_v d_int) (fun _ _ => rfl))) pa_n)))))))))))
end
local macro_rules | `(tactic| walk_at "ev") => `(tactic| simp [eDct0_a, gTab_q, gIx_ds, gIx_di, gIn_ds, gNotIn_ds, gIn_di, gNotIn_di, gGet1_s, gGet1_i, sSetK_a, eDisp_a, gDictC_d, dispL_n, dispL_c, isDct_d, mkF_e, finR_ret, finR_next, finR_ex, FEv_fin, finO_n, finO_c, sSeq_a, sIf_a, sRet_a, sSet_a, sDrop_a, sFor_a, sNext_a, sBrk_a, sCnt_a, tst_a, cAnd_a, cOr_a, cNot_a, ap_a, ops_n, ops_b, ops_v, eC_a, eVar_a, eMove_a, eFz_a, eIf_a, eAnd_a, eOr_a, eNot_a, items_n, items_c, eTup_a, eLst_a, pure_a, stuck_a, bind_a, eCall_e, callR_ok, callR_ex, Ev_callR, cops_n, cops_b, cops_v, wb, thn_ok, thn_ex, thn_none, ↓Ev_d, ↓FEv_d, Ev_thn, Ev_ok, Ev_ex, Ev_none, FEv_ok, FEv_ex, FEv_none, getO_nil, getO_0, getO_0n, getO_s, gAdd_i, gAdd_z, gAdd_l, gAdd_t, gAddI_i, gSub_i, gMul_i, gMulS_q, gDiv_i, gMod_i, gPow_i, gNeg_i, gEq_i, gEq_z, gEq_b, gNe_i, gNe_z, gNe_b, gEq_l, gEq_t, gEq_s, gEq_n, gNe_l, gNe_t, gNe_s, gNe_n, gLt_i, gLtX_i, gLtX_z, gLtX_t, gLtX_l, gGt_i, gLe_i, gGe_i, gLt_t, gGt_t, gLe_t, gGe_t, gLt_l, gGt_l, gLe_l, gGe_l, gLt_z, gGt_z, gLe_z, gGe_z, gIsN_n, gIsN_b, gIsN_i, gIsN_z, gIsN_l, gIsN_t, gIsN_s, gIsN_bb, gNotN_n, gNotN_b, gNotN_i, gNotN_z, gNotN_l, gNotN_t, gNotN_s, gNotN_bb, gIn_z, gIn_l, gIn_t, gNotIn_z, gNotIn_l, gNotIn_t, gIx_l, gIx_t, gIx_s, gIx_z, gLen_l, gLen_t, gLen_s, gLen_z, gInt_i, gInt_b, gOrd_1, gListX_z, gListX_l, gListX_t, gListX_s, gList_l, gList_t, gList_s, gTuple_l, gTuple_t, gApp_q, gPop_q, gPop0_q, gExt_q, gRev_q, gIsi_q, gSl00, gSl10, gSl01, gSl11, slD_l, slD_t, slD_s, slD_z, gRevS_l, gCount_z, gStarts_z, gRstrip_z, seqD_l, seqD_t, seqD_s, seqD_z, sRng1_e, sRng2_e, rgR1_q, rgR2_q, sSeqD_a, isStr, sEnum_a, eComp_e, lcR_ok, Ev_lcR, wipeE_n, wipeE_c, restE_n, restE_c, eMut1_a, eMut0_a, sSetIx_a, eChain_a, tru_a, sAug_a, sSetT_a, apM_b, apM_v, eI_a, Tg.go, gMax2_i, gMin2_i, gIns0_q, gStr1_i, gAbs_i, truD_bl, truD_l, truD_t, gEq_iz, gEq_zi, gNe_iz, gNe_zi, atI_c0, atI_c1, atI_c2, atI_c3, atI_c4, atI_c5, isi_int_non, isi_int_bl, isi_int_int, isi_int_str, isi_int_lst, isi_int_scr, isi_int_tup, isi_bool_non, isi_bool_bl, isi_bool_int, isi_bool_str, isi_bool_lst, isi_bool_scr, isi_bool_tup, isi_str_non, isi_str_bl, isi_str_int, isi_str_str, isi_str_lst, isi_str_scr, isi_str_tup, isi_list_non, isi_list_bl, isi_list_int, isi_list_str, isi_list_lst, isi_list_scr, isi_list_tup, isi_tuple_non, isi_tuple_bl, isi_tuple_int, isi_tuple_str, isi_tuple_lst, isi_tuple_scr, isi_tuple_tup, isLst, gLCount_s, sRaise_a, sRaise0_a, Ev_sTry, HandP_t, HandP_f, Ev_sTryM, HandM_t, HandM_u, HandM_f, HandM_n, eXf_p, eXf_w, eXi_a, *])
local macro_rules | `(tactic| walk_at "evs") => `(tactic| simp only [eDct0_a, gTab_q, gIx_ds, gIx_di, gIn_ds, gNotIn_ds, gIn_di, gNotIn_di, gGet1_s, gGet1_i, sSetK_a, eDisp_a, gDictC_d, dispL_n, dispL_c, isDct_d, mkF_e, finR_ret, finR_next, finR_ex, FEv_fin, finO_n, finO_c, sSeq_a, sIf_a, sRet_a, sSet_a, sDrop_a, sFor_a, sNext_a, sBrk_a, sCnt_a, tst_a, cAnd_a, cOr_a, cNot_a, ap_a, ops_n, ops_b, ops_v, eC_a, eVar_a, eMove_a, eFz_a, eIf_a, eAnd_a, eOr_a, eNot_a, items_n, items_c, eTup_a, eLst_a, pure_a, stuck_a, bind_a, eCall_e, callR_ok, callR_ex, Ev_callR, cops_n, cops_b, cops_v, wb, thn_ok, thn_ex, thn_none, ↓Ev_d, ↓FEv_d, Ev_thn, Ev_ok, Ev_ex, Ev_none, FEv_ok, FEv_ex, FEv_none, getO_nil, getO_0, getO_0n, getO_s, gAdd_i, gAdd_z, gAdd_l, gAdd_t, gAddI_i, gSub_i, gMul_i, gMulS_q, gDiv_i, gMod_i, gPow_i, gNeg_i, gEq_i, gEq_z, gEq_b, gNe_i, gNe_z, gNe_b, gEq_l, gEq_t, gEq_s, gEq_n, gNe_l, gNe_t, gNe_s, gNe_n, gLt_i, gLtX_i, gLtX_z, gLtX_t, gLtX_l, gGt_i, gLe_i, gGe_i, gLt_t, gGt_t, gLe_t, gGe_t, gLt_l, gGt_l, gLe_l, gGe_l, gLt_z, gGt_z, gLe_z, gGe_z, gIsN_n, gIsN_b, gIsN_i, gIsN_z, gIsN_l, gIsN_t, gIsN_s, gIsN_bb, gNotN_n, gNotN_b, gNotN_i, gNotN_z, gNotN_l, gNotN_t, gNotN_s, gNotN_bb, gIn_z, gIn_l, gIn_t, gNotIn_z, gNotIn_l, gNotIn_t, gIx_l, gIx_t, gIx_s, gIx_z, gLen_l, gLen_t, gLen_s, gLen_z, gInt_i, gInt_b, gOrd_1, gListX_z, gListX_l, gListX_t, gListX_s, gList_l, gList_t, gList_s, gTuple_l, gTuple_t, gApp_q, gPop_q, gPop0_q, gExt_q, gRev_q, gIsi_q, gSl00, gSl10, gSl01, gSl11, slD_l, slD_t, slD_s, slD_z, gRevS_l, gCount_z, gStarts_z, gRstrip_z, seqD_l, seqD_t, seqD_s, seqD_z, sRng1_e, sRng2_e, rgR1_q, rgR2_q, sSeqD_a, isStr, sEnum_a, eComp_e, lcR_ok, Ev_lcR, wipeE_n, wipeE_c, restE_n, restE_c, eMut1_a, eMut0_a, sSetIx_a, eChain_a, tru_a, sAug_a, sSetT_a, apM_b, apM_v, eI_a, Tg.go, gMax2_i, gMin2_i, gIns0_q, gStr1_i, gAbs_i, truD_bl, truD_l, truD_t, gEq_iz, gEq_zi, gNe_iz, gNe_zi, atI_c0, atI_c1, atI_c2, atI_c3, atI_c4, atI_c5, isi_int_non, isi_int_bl, isi_int_int, isi_int_str, isi_int_lst, isi_int_scr, isi_int_tup, isi_bool_non, isi_bool_bl, isi_bool_int, isi_bool_str, isi_bool_lst, isi_bool_scr, isi_bool_tup, isi_str_non, isi_str_bl, isi_str_int, isi_str_str, isi_str_lst, isi_str_scr, isi_str_tup, isi_list_non, isi_list_bl, isi_list_int, isi_list_str, isi_list_lst, isi_list_scr, isi_list_tup, isi_tuple_non, isi_tuple_bl, isi_tuple_int, isi_tuple_str, isi_tuple_lst, isi_tuple_scr, isi_tuple_tup, isLst, gLCount_s, sRaise_a, sRaise0_a, Ev_sTry, HandP_t, HandP_f, Ev_sTryM, HandM_t, HandM_u, HandM_f, HandM_n, eXf_p, eXf_w, eXi_a])
theorem cell_ok (ns : List Int) (k : Int) (h0 : 0 ≤ k) : ∃ c, F__law_cell [.fr (.scr ns), .fr (.int k)] = some (.ok (iO c) [.fr (.scr ns), .fr (.int k)]) := by
  unfold F__law_cell G__law_cell
  by_cases h : k < ns.length
  · obtain ⟨x, hx, _⟩ := atI_some h0 h
    refine ⟨x, ?_⟩
    walk_at "ev"
  · refine ⟨0, ?_⟩
    walk_at "ev"
theorem row_turn (c n b k : Int) (ds : List D) (q : Option O) (hb : 0 < b) (hb2 : b ≤ 1000000) (hk : 0 ≤ k) (hk2 : k < 1000000) (hl : ds.length < 16777216) : Ev (B__law_row_0 [some (.fr (.int c)), some (.fr (.int n)), some (.fr (.int b)), some (.lst ds), some (.fr (.int k)), q])
    (fun fl e => fl = .next ∧ ∃ (c' r : Int) (q' : Option O), e = [some (.fr (.int c')), some (.fr (.int n)), some (.fr (.int b)), some (.lst (ds ++ [.int r])), some (.fr (.int k)), q'] ∧ 0 ≤ r ∧ r < b) (fun _ _ => False) := by
  unfold B__law_row_0
  have h1 : b ≠ 0 := by omega
  have h3 : b.natAbs < 1073741824 := by omega
  have h2 : ds.length < sizeLine := by rw [sl_val]; exact hl
  have hp : (10 : Int) ^ 18 = 1000000000000000000 := by decide
  have hm : ∀ x : Int, 0 ≤ x.fmod b ∧ x.fmod b < b := fun x => by rw [fmod_pos hb]; exact ⟨mod_ge hb, mod_lt hb⟩
  by_cases h : (1000000000000000000 : Int) ≤ c
  · walk_at "ev"
    exact ⟨_, _, ⟨rfl, rfl⟩, hm _⟩
  · have m1 : mulOk c 48271 = true := mul_small' (by omega)
    have m2 : mulOk k 69621 = true := mul_small' (by omega)
    have m3 : ∀ x y : Int, mulOk (x.fmod 2147483647) y = true := fun x y => mul_small (by rw [fmod_pos (by omega)]; omega)
    have m3' : ∀ x y : Int, mulOk (x.fmod 998244353) y = true := fun x y => mul_small (by rw [fmod_pos (by omega)]; omega)
    have m4 : mulOk 16807 k = true := mul_small' (by omega)
    have m5 : mulOk 48271 k = true := mul_small' (by omega)
    walk_at "ev"
    exact ⟨_, _, ⟨rfl, rfl⟩, hm _⟩
/-- what a row holds -/
def RowI (n b : Int) (i : Nat) (e : Sl) : Prop := ∃ (c : Int) (rs : List Int) (o q : Option O), e = [some (.fr (.int c)), some (.fr (.int n)), some (.fr (.int b)), some (.lst (rs.map .int)), o, q] ∧ rs.length = i ∧ ∀ r ∈ rs, 0 ≤ r ∧ r < b
theorem row_ok (c n b : Int) (h0 : 0 ≤ n) (hn : n ≤ 1000000) (hb : 0 < b) (hb2 : b ≤ 1000000) : ∃ rs : List Int, F__law_row [.fr (.int c), .fr (.int n), .fr (.int b)] = some (.ok (.lst (rs.map .int)) [.fr (.int c), .fr (.int n), .fr (.int b)]) ∧ (rs.length : Int) = n ∧ ∀ r ∈ rs, 0 ≤ r ∧ r < b := by
  have hr : inR n = true := inR_pos h0 hn
  have H : FEv (F__law_row [.fr (.int c), .fr (.int n), .fr (.int b)]) (fun o os => os = [.fr (.int c), .fr (.int n), .fr (.int b)] ∧ ∃ rs : List Int, o = .lst (rs.map .int) ∧ (rs.length : Int) = n ∧ ∀ r ∈ rs, 0 ≤ r ∧ r < b) (fun _ _ => False) := by
    unfold F__law_row G__law_row
    walk_at "ev"
    refine Ev_forL (RowI n b) _ (rngD 0 n) _ ⟨c, [], _, _, rfl, rfl, fun r h => by cases h⟩ ?_ ?_
    · rintro i d e hd ⟨c', rs, o, q, rfl, hl, hrs⟩
      obtain ⟨rfl, hi⟩ := rngD_get hd
      refine ⟨_, rfl, ?_⟩
      refine (row_turn c' n b _ (rs.map .int) q hb hb2 (by omega) (by omega) (by rw [List.length_map]; omega)).mono ?_ fun _ _ z => z.elim
      rintro fl e ⟨rfl, c2, r, q', rfl, h1, h2⟩
      refine ⟨c2, rs ++ [r], _, _, by rw [List.map_append]; rfl, by rw [List.length_append, hl]; rfl, fun x hx => ?_⟩
      rcases List.mem_append.mp hx with hx | hx
      · exact hrs x hx
      · rw [List.mem_singleton.mp hx]; exact ⟨h1, h2⟩
    · rintro e ⟨c', rs, o, q, rfl, hl, hrs⟩
      walk_at "ev"
      refine ⟨rs, rfl, ?_, hrs⟩
      rw [hl, rngD_len]; omega
  obtain ⟨o, os, h, rfl, rs, rfl, h2⟩ := H.get
  exact ⟨rs, h, h2⟩
theorem abc_zl : zl (PySem.Str.ofString "abcdefghijklmnopqrstuvwxyz") = [97, 98, 99, 100, 101, 102, 103, 104, 105, 106, 107, 108, 109, 110, 111, 112, 113, 114, 115, 116, 117, 118, 119, 120, 121, 122] := by decide +kernel
theorem abc_len : (PySem.Str.ofString "abcdefghijklmnopqrstuvwxyz").length = 26 := by decide +kernel
theorem abc_at {r : Int} (h0 : 0 ≤ r) (h1 : r < 26) : atI (PySem.Str.ofString "abcdefghijklmnopqrstuvwxyz").cps.toList r = some (97 + r.toNat) := by
  obtain ⟨n, rfl⟩ := Int.eq_ofNat_of_zero_le h0
  have h2 : n < 26 := by omega
  have e : (PySem.Str.ofString "abcdefghijklmnopqrstuvwxyz").cps.toList = _ := abc_zl
  rw [e, atI_nat' (by omega) (by show (n : Int) < 26; omega)]
  clear h0 h1
  revert n
  decide
def LtrZ (z : Str) : Prop := ∀ c ∈ zl z, 97 ≤ c ∧ c ≤ 122
theorem LtrZ.ok {z : Str} (h : LtrZ z) : ∀ c ∈ zl z, c < 1114112 := fun c hc => by have := h c hc; omega
/-- a row of one-sign texts that are letters -/
def LtRow (xs : List D) : Prop := ∃ cs : List Nat, xs = cs.map (fun c => D.str (one c)) ∧ ∀ c ∈ cs, 97 ≤ c ∧ c ≤ 122
theorem ltRow_of : ∀ (xs : List D), (∀ x ∈ xs, ∃ c, x = D.str (one c) ∧ 97 ≤ c ∧ c ≤ 122) → LtRow xs
  | [], _ => ⟨[], rfl, fun c h => (List.not_mem_nil h).elim⟩
  | x :: xs, h => by
    obtain ⟨c, rfl, hc⟩ := h x List.mem_cons_self
    obtain ⟨cs, rfl, hcs⟩ := ltRow_of xs fun y hy => h y (List.mem_cons_of_mem _ hy)
    refine ⟨c :: cs, rfl, fun d hd => ?_⟩
    rcases List.mem_cons.mp hd with rfl | hd
    · exact hc
    · exact hcs d hd
theorem LtRow.join {xs : List D} (h : LtRow xs) (hl : xs.length ≤ 1000) : ∃ z : Str, gJoin [.str (PySem.Str.ofString ""), .lst xs] = some (sO z) ∧ LtrZ z ∧ z.length = xs.length := by
  obtain ⟨cs, rfl, hcs⟩ := h
  rw [List.length_map] at hl
  exact ⟨⟨cs.toArray⟩, gJoin_ones (by omega), hcs, by rw [len_mk, List.length_map]⟩
/-- a small letter -/
def ab (c : Nat) : Bool := decide (c ∈ zl (PySem.Str.ofString "abcdefghijklmnopqrstuvwxyz"))
/-- letters alone -/
def lz (z : Str) : Bool := (zl z).all fun c => ab c
/-- a sign of a pattern -/
def psg (c : Nat) : Bool := ab c || decide (c ∈ zl (PySem.Str.ofString "?*"))
/-- a pattern -/
def patB (z : Str) : Bool := decide (z.length ≤ 8) && (decide ((Txt.count z (PySem.Str.ofString "*") : Int) ≤ 2) && (zl z).all psg)
theorem in_abc (c : Nat) : gIn [.str (one c), .str (PySem.Str.ofString "abcdefghijklmnopqrstuvwxyz")] = some (bO (ab c)) := nr rfl
theorem in_wild (c : Nat) : gIn [.str (one c), .str (PySem.Str.ofString "?*")] = some (bO (decide (c ∈ zl (PySem.Str.ofString "?*")))) := nr rfl
theorem boolsD_bl (bs : List Bool) : boolsD (bs.map D.bl) = some bs := by
  induction bs with
  | nil => rfl
  | cons b bs ih => show (boolsD (bs.map D.bl)).map (b :: ·) = _; rw [ih]; rfl
theorem all_bl {α : Type} (f : α → Bool) (xs : List α) : gAll [.lst (xs.map fun c => D.bl (f c))] = some (bO (xs.all f)) := by
  have := boolsD_bl (xs.map fun c => f c)
  rw [List.map_map] at this
  show (boolsD (xs.map (D.bl ∘ fun c => f c))).map _ = _
  rw [this]
  show some (bO ((xs.map fun c => f c).all id)) = _
  rw [List.all_map]; rfl
theorem pat_comp (z : Str) (hl : z.length ≤ 1000) : lcL [1] (.n 1) cYes C_is_pattern_0 (signs z) [] [some (.fr (.str z)), none] = some ((zl z).map fun c => D.bl (psg c), [some (.fr (.str z)), none]) := by
  rw [signs_map]
  refine lc_map (fun c => D.str (one c)) (fun c => D.bl (psg c)) (zl z) (by have : (zl z).length = z.length := rfl; omega) fun c _ => ⟨_, rfl, ?_⟩
  have h1 := in_abc c
  have h2 := in_wild c
  have h3 : psg c = (ab c || decide (c ∈ zl (PySem.Str.ofString "?*"))) := rfl
  unfold C_is_pattern_0
  generalize decide (c ∈ zl (PySem.Str.ofString "?*")) = b2 at *
  generalize ab c = b1 at *
  cases b1
  · walk_at "ev"
  · walk_at "ev"
theorem ispat_ok (z : Str) (hl : z.length ≤ 1000) : F_is_pattern [.fr (.str z)] = some (.ok (bO (patB z)) [.fr (.str z)]) := by
  have hs : z.length ≤ sizeLine := sz_of (by omega)
  unfold F_is_pattern G_is_pattern
  by_cases h8 : z.length ≤ 8
  · have h8' : ¬ ((8 : Int) < (z.length : Int)) := by omega
    by_cases h2 : (Txt.count z (PySem.Str.ofString "*") : Int) ≤ 2
    · have h2' : ¬ ((2 : Int) < (Txt.count z (PySem.Str.ofString "*") : Int)) := by omega
      have hc := pat_comp z (by omega)
      have ha := all_bl psg (zl z)
      have e : patB z = (zl z).all psg := by unfold patB; rw [decide_eq_true h8, decide_eq_true h2]; rfl
      generalize ((zl z).map fun c => D.bl (psg c)) = bs at *
      generalize (zl z).all psg = ba at *
      generalize patB z = pb at *
      subst e
      clear hl h8 h2
      walk_at "ev"
    · have h2' : (2 : Int) < (Txt.count z (PySem.Str.ofString "*") : Int) := by omega
      have e : patB z = false := by unfold patB; rw [decide_eq_false h2, Bool.false_and, Bool.and_false]
      rw [e]
      clear hl e h2 h8
      walk_at "ev"
  · have h8' : (8 : Int) < (z.length : Int) := by omega
    have e : patB z = false := by unfold patB; rw [decide_eq_false h8, Bool.false_and]
    rw [e]
    clear hl e h8
    walk_at "ev"
theorem ab_of {c : Nat} (h : 97 ≤ c ∧ c ≤ 122) : ab c = true := by
  have e : zl (PySem.Str.ofString "abcdefghijklmnopqrstuvwxyz") = [97, 98, 99, 100, 101, 102, 103, 104, 105, 106, 107, 108, 109, 110, 111, 112, 113, 114, 115, 116, 117, 118, 119, 120, 121, 122] := abc_zl
  unfold ab
  rw [e]
  refine decide_eq_true ?_
  simp only [List.mem_cons, List.not_mem_nil, or_false]
  omega
theorem lz_of {z : Str} (h : LtrZ z) : lz z = true := List.all_eq_true.mpr fun c hc => ab_of (h c hc)
theorem psg_of {c : Nat} (h : 97 ≤ c ∧ c ≤ 122 ∨ c = 63 ∨ c = 42) : psg c = true := by
  unfold psg
  rcases h with h | h | h
  · rw [ab_of h]; rfl
  · rw [h]; decide +kernel
  · rw [h]; decide +kernel
theorem text_comp1 (z : Str) (hl : z.length ≤ 1000) : lcL [1] (.n 1) cYes C_is_text_0 (signs z) [] [some (.fr (.str z)), none] = some ((zl z).map fun c => D.bl (ab c), [some (.fr (.str z)), none]) := by
  rw [signs_map]
  refine lc_map (fun c => D.str (one c)) (fun c => D.bl (ab c)) (zl z) (by have : (zl z).length = z.length := rfl; omega) fun c _ => ⟨_, rfl, ?_⟩
  have h1 := in_abc c
  unfold C_is_text_0
  walk_at "ev"
theorem is_text_z (z : Str) (hl : z.length ≤ 1000) : F_is_text [.fr (.str z)] = some (.ok (bO (lz z)) [.fr (.str z)]) := by
  have h1 := text_comp1 z hl
  have h2 : gAll [.lst ((zl z).map fun c => D.bl (ab c))] = some (bO (lz z)) := all_bl ab (zl z)
  generalize ((zl z).map fun c => D.bl (ab c)) = bs at *
  unfold F_is_text G_is_text
  walk_at "ev"
/-! repr of texts and of a few other things -/
theorem rpc {q c : Nat} (hq : q = 39 ∨ q = 34) (h : c < 128) : (PySem.Builtin.Str.reprChar q c).length ≤ 4 := by
  have key : ∀ n : Nat, n < 128 → (PySem.Builtin.Str.reprChar 39 n).length ≤ 4 ∧ (PySem.Builtin.Str.reprChar 34 n).length ≤ 4 := by decide +kernel
  rcases hq with rfl | rfl
  · exact (key c h).1
  · exact (key c h).2
theorem rpf {q : Nat} (hq : q = 39 ∨ q = 34) : ∀ (l : List Nat) (acc : Array Nat), (∀ c ∈ l, c < 128) → (l.foldl (fun out c => out ++ (PySem.Builtin.Str.reprChar q c).toArray) acc).size ≤ acc.size + 4 * l.length
  | [], acc, _ => by simp
  | c :: l, acc, h => by
    rw [List.foldl_cons]
    have h1 := rpf hq l (acc ++ (PySem.Builtin.Str.reprChar q c).toArray) fun d hd => h d (.tail _ hd)
    have h2 := rpc hq (h c (.head _))
    have e : (acc ++ (PySem.Builtin.Str.reprChar q c).toArray).size = acc.size + (PySem.Builtin.Str.reprChar q c).length := by simp
    rw [e] at h1
    rw [List.length_cons]
    omega
theorem rpq (z : Str) : PySem.reprQuote z = 39 ∨ PySem.reprQuote z = 34 := by
  unfold PySem.reprQuote
  split <;> simp
theorem rp_len {z : Str} (h : ∀ c ∈ zl z, c < 128) (hl : z.length ≤ 1000) : (PySem.reprText z).length ≤ sizeLine := by
  unfold PySem.reprText
  show (Array.push _ _).size ≤ _
  rw [Array.size_push, ← Array.foldl_toList]
  have := rpf (rpq z) (zl z) #[PySem.reprQuote z] h
  have e : (zl z).length = z.length := rfl
  have e2 : (#[PySem.reprQuote z] : Array Nat).size = 1 := rfl
  have e3 : z.cps.toList = zl z := rfl
  rw [e3, sizeLine_eq]
  omega
theorem repr_z {z : Str} (h : ∀ c ∈ zl z, c < 128) (hl : z.length ≤ 1000) : gRepr [.str z] = some (sO (PySem.reprText z)) := by
  have e0 : (D.str z).py.shown = PySem.reprText z := by rw [D.py]; simp [PyData.shown]
  show (if Dn.shp (.str z) && ((D.str z).py.showable && decide ((D.str z).py.shown.length ≤ sizeLine)) then some (sO (D.str z).py.shown) else none) = _
  rw [e0, decide_eq_true (rp_len h hl), shp_z fun c hc => Nat.lt_trans (h c hc) (by omega), show (D.str z).py.showable = true by rw [D.py]; simp [PyData.showable]]
  rfl
def odd4 : List D := [.int 7, .non, .bl true, .bl false, .lst [.str (PySem.Str.ofString "a")], .tup [.str (PySem.Str.ofString "a")], .lst [], .int (-1)]
theorem repr_odd {d : D} (h : d ∈ odd4) : ∃ t, gRepr [d] = some (sO t) := by
  have key : odd4.all (fun d => Dn.shp d && (d.py.showable && decide (d.py.shown.length ≤ sizeLine))) = true := by decide +kernel
  have := List.all_eq_true.mp key d h
  exact ⟨d.py.shown, if_pos this⟩
/-- what is drawn -/
inductive V4 : D → Prop
  | str (z : Str) (h : ∀ c ∈ zl z, c < 128) (hl : z.length ≤ 89) : V4 (.str z)
  | odd (d : D) (h : d ∈ odd4) : V4 d
theorem V4.repr {d : D} (h : V4 d) : ∃ t, gRepr [d] = some (sO t) := by
  cases h with
  | str z h hl => exact ⟨_, repr_z h (by omega)⟩
  | odd _ h => exact repr_odd h
/-! what is drawn -/
abbrev SG4 : Str := PySem.Str.ofString "abcdefghijklmnopqrstuvwxyzabc???***xyz?*"
abbrev OT4 : Str := PySem.Str.ofString "AZ09 \n\t-_.,+!/\\[]^$|(){}"
theorem sg4_len : SG4.length = 40 := by decide +kernel
theorem ot4_len : OT4.length = 24 := by decide +kernel
theorem sg4_ok : ∀ c ∈ zl SG4, c < 128 := by decide +kernel
theorem ot4_ok : ∀ c ∈ zl OT4, c < 128 := by decide +kernel
def sg (r : Int) : Nat := (atI SG4.cps.toList r).getD 97
theorem sg_at {r : Int} (h0 : 0 ≤ r) (h1 : r < 40) : gIx [.str SG4, .int r] = some (sO (one (sg r))) ∧ sg r < 128 := by
  have hl := sg4_len
  obtain ⟨c, hc, hm⟩ := atI_some (xs := SG4.cps.toList) h0 (by rw [show (SG4.cps.toList.length) = SG4.length from rfl, hl]; omega)
  have e : sg r = c := by unfold sg; rw [hc]; rfl
  rw [e, gIx_z (sz_of (by rw [hl]; omega)), hc]
  exact ⟨rfl, sg4_ok c hm⟩
theorem comp4 (rs : List Int) (h : ∀ r ∈ rs, 0 ≤ r ∧ r < 40) (hl : rs.length ≤ 1000) (a c d e : Option O) : lcL [5] (.n 5) cYes (ap gIx [.b 1, .b 5]) (rs.map .int) [] [a, some (sO SG4), c, d, e, none] = some (rs.map (fun r => D.str (one (sg r))), [a, some (sO SG4), c, d, e, none]) := by
  rw [← onI_map (fun r => D.str (one (sg r)))]
  refine lcL_mapE _ (rs.map .int) (by rw [List.length_map]; omega) fun d hd => ?_
  obtain ⟨r, hr, rfl⟩ := List.mem_map.mp hd
  obtain ⟨h1, h2⟩ := h r hr
  have ha := (sg_at h1 h2).1
  generalize SG4 = S at *
  refine ⟨_, rfl, ?_⟩
  unfold cYes
  clear hd
  walk_at "ev"
  rfl
def cs4 (rs : List Int) : List Nat := rs.map sg
theorem cs4_ok {rs : List Int} {b : Int} (hb : b ≤ 40) (h : ∀ r ∈ rs, 0 ≤ r ∧ r < b) : ∀ c ∈ cs4 rs, c < 128 := fun c hc => by
  obtain ⟨r, hr, rfl⟩ := List.mem_map.mp hc
  have := h r hr
  exact (sg_at this.1 (by omega)).2
theorem end4 (cs : List Nat) (h : ∀ c ∈ cs, c < 128) (hl : cs.length ≤ 89) : gJoin [.str (PySem.Str.ofString ""), .lst (cs.map fun c => D.str (one c))] = some (sO ⟨cs.toArray⟩) ∧ V4 (.str ⟨cs.toArray⟩) :=
  ⟨gJoin_ones (by omega), .str _ h (by rw [len_mk]; exact hl)⟩
theorem value_ok (ns : List Int) : ∃ d, F__law_value [.fr (.scr ns)] = some (.ok (.fr d) [.fr (.scr ns)]) ∧ V4 d := by
  obtain ⟨c0, k0⟩ := cell_ok ns 0 (by omega)
  obtain ⟨c1, k1⟩ := cell_ok ns 1 (by omega)
  obtain ⟨c2, k2⟩ := cell_ok ns 2 (by omega)
  obtain ⟨c3, k3⟩ := cell_ok ns 3 (by omega)
  obtain ⟨c4, k4⟩ := cell_ok ns 4 (by omega)
  obtain ⟨c5, k5⟩ := cell_ok ns 5 (by omega)
  obtain ⟨c6, k6⟩ := cell_ok ns 6 (by omega)
  have s0 : 0 ≤ c0.fmod 12 := by rw [fmod_pos (by omega)]; exact mod_ge (by omega)
  have s1 : c0.fmod 12 < 12 := by rw [fmod_pos (by omega)]; exact mod_lt (by omega)
  have t0 : 0 ≤ c0.fmod 90 := by rw [fmod_pos (by omega)]; exact mod_ge (by omega)
  have t1 : c0.fmod 90 < 90 := by rw [fmod_pos (by omega)]; exact mod_lt (by omega)
  have u0 : 0 ≤ c6.fmod 8 := by rw [fmod_pos (by omega)]; exact mod_ge (by omega)
  have u1 : c6.fmod 8 < 8 := by rw [fmod_pos (by omega)]; exact mod_lt (by omega)
  obtain ⟨r1, q1, q2, q3⟩ := row_ok c1 (c0.fmod 12) 40 s0 (by omega) (by omega) (by omega)
  obtain ⟨r2, p1, p2, p3⟩ := row_ok c1 (c0.fmod 12) 26 s0 (by omega) (by omega) (by omega)
  obtain ⟨r3, w1, w2, w3⟩ := row_ok c1 (c0.fmod 90) 26 t0 (by omega) (by omega) (by omega)
  have hc0 : ∀ a c d e, lcL [5] (.n 5) cYes C__law_value_0 (r1.map .int) [] [a, some (sO SG4), c, d, e, none] = _ := fun a c d e => comp4 r1 q3 (by omega) a c d e
  have hc1 : ∀ a c d e, lcL [5] (.n 5) cYes C__law_value_1 (r2.map .int) [] [a, some (sO SG4), c, d, e, none] = _ := fun a c d e => comp4 r2 (fun r h => by have := p3 r h; omega) (by omega) a c d e
  have hc2 : ∀ a c d e, lcL [5] (.n 5) cYes C__law_value_2 (r3.map .int) [] [a, some (sO SG4), c, d, e, none] = _ := fun a c d e => comp4 r3 (fun r h => by have := w3 r h; omega) (by omega) a c d e
  have m0 : ∀ rs : List Int, rs.map (fun r => D.str (one (sg r))) = (cs4 rs).map fun c => D.str (one c) := fun rs => by unfold cs4; rw [List.map_map]; rfl
  have l0 : ∀ rs : List Int, (cs4 rs).length = rs.length := fun rs => List.length_map ..
  have n1 := cs4_ok (by omega) q3
  have n2 := cs4_ok (by omega) p3
  have n3 := cs4_ok (by omega) w3
  have L1 : (cs4 r1).length ≤ 12 ∧ ((cs4 r1).length : Int) = c0.fmod 12 := by rw [l0]; omega
  have L2 : (cs4 r2).length ≤ 12 := by rw [l0]; omega
  have L3 : (cs4 r3).length ≤ 89 := by rw [l0]; omega
  simp only [m0] at hc0 hc1 hc2
  have hS : (SG4 : Str) = PySem.Str.ofString "abcdefghijklmnopqrstuvwxyzabc???***xyz?*" := rfl
  have fin : ∀ d, V4 d → @hq O (List O) ⟨fun o os => ∃ d, o = .fr d ∧ os = [.fr (.scr ns)] ∧ V4 d⟩ (.fr d) [.fr (.scr ns)] := fun d h => hqi ⟨d, rfl, rfl, h⟩
  have H : FEv (F__law_value [.fr (.scr ns)]) (@hq _ _ ⟨fun o os => ∃ d, o = .fr d ∧ os = [.fr (.scr ns)] ∧ V4 d⟩) (fun _ _ => False) := by
    have hot := ot4_len
    have hol : gLen [.str OT4] = some (iO 24) := by rw [gLen_z (sz_of (by omega)), hot]; rfl
    -- the sign that is put in
    have v0 : 0 ≤ c4.fmod 24 := by rw [fmod_pos (by omega)]; exact mod_ge (by omega)
    have v1 : c4.fmod 24 < OT4.length := by rw [fmod_pos (by omega)]; exact mod_lt (by omega)
    obtain ⟨cx, hx, hxm⟩ := atI_some (xs := OT4.cps.toList) v0 (by rw [show OT4.cps.toList.length = OT4.length from rfl, hot]; exact v1)
    have hix : gIx [.str OT4, .int (c4.fmod 24)] = some (sO (one cx)) := by rw [gIx_z (sz_of (by omega)), hx]; rfl
    have hcx := ot4_ok cx hxm
    -- the row behind the change
    have okset : ∀ j : Nat, ∀ c ∈ (cs4 r1).set j cx, c < 128 := fun j c hc => by
      rcases List.mem_or_eq_of_mem_set hc with h | rfl
      · exact n1 c h
      · exact hcx
    obtain ⟨j1, j2⟩ := end4 (cs4 r1) n1 (by omega)
    obtain ⟨e1, e2⟩ := end4 (cs4 r2) n2 (by omega)
    obtain ⟨f1, f2⟩ := end4 (cs4 r3) n3 (by omega)
    have g1 := fun j => (end4 ((cs4 r1).set j cx) (okset j) (by rw [List.length_set]; omega)).1
    have g2 := fun j => (end4 ((cs4 r1).set j cx) (okset j) (by rw [List.length_set]; omega)).2
    have J := fin _ j2
    have E := fin _ e2
    have F := fin _ f2
    have G := fun j => fin _ (g2 j)
    have lj : ((cs4 r1).length : Int) = c0.fmod 12 := L1.2
    have odd : ∃ d, gIx [.lst odd4, .int (c6.fmod 8)] = some (.fr d) ∧ d ∈ odd4 := by
      obtain ⟨d, h1, h2⟩ := atI_some (xs := odd4) u0 (by show c6.fmod 8 < 8; exact u1)
      exact ⟨d, by rw [gIx_l, h1]; rfl, h2⟩
    obtain ⟨d, o1, o2⟩ := odd
    have O := fin _ (.odd d o2)
    unfold odd4 at o1
    clear fin o2 j2 e2 f2 g2 okset hcx n1 n2 n3 L1 L2 L3 m0 l0 hxm hx q3 p3 w3 hot
    unfold F__law_value G__law_value
    have hj : 0 < c0.fmod 12 → ∃ j : Nat, ixN (cs4 r1).length (c3.fmod (c0.fmod 12)) = some j := fun h => by
      have a : 0 ≤ c3.fmod (c0.fmod 12) := by rw [fmod_pos h]; exact mod_ge h
      have b : c3.fmod (c0.fmod 12) < c0.fmod 12 := by rw [fmod_pos h]; exact mod_lt h
      exact ⟨_, ixN_nat a (by rw [lj]; exact b)⟩
    by_cases h1 : c2.fmod 3 = 1
    · have h2 : ¬ c2.fmod 3 = 2 := by omega
      by_cases h3 : 0 < c0.fmod 12
      · obtain ⟨j, hj⟩ := hj h3
        have Gj := G j
        have gj := g1 j
        rw [List.map_set] at gj
        clear G g1 hc1 p1 E e1
        have m0 : ¬ c0.fmod 12 = 0 := by omega
        by_cases h5 : c5.fmod 8 = 2
        · clear w2 t0 t1 u0 u1 v0 v1 s0 s1 p2 q2 lj
          walk_at "ev"
          first | done | exact F
        · by_cases h6 : c5.fmod 8 = 1
          · clear w2 t0 t1 u0 u1 v0 v1 s0 s1 p2 q2 lj
            walk_at "ev"
            first | done | exact O
          · clear w2 t0 t1 u0 u1 v0 v1 s0 s1 p2 q2 lj
            walk_at "ev"
            first | done | exact Gj
      · clear G g1 hc1 p1 E e1 hj hix
        by_cases h5 : c5.fmod 8 = 2
        · clear w2 t0 t1 u0 u1 v0 v1 s0 s1 p2 q2 lj
          walk_at "ev"
          first | done | exact F
        · by_cases h6 : c5.fmod 8 = 1
          · clear w2 t0 t1 u0 u1 v0 v1 s0 s1 p2 q2 lj
            walk_at "ev"
            first | done | exact O
          · clear w2 t0 t1 u0 u1 v0 v1 s0 s1 p2 q2 lj
            walk_at "ev"
            first | done | exact J
    · clear G g1 hj hix
      by_cases h2 : c2.fmod 3 = 2
      · by_cases h5 : c5.fmod 8 = 2
        · clear w2 t0 t1 u0 u1 v0 v1 s0 s1 p2 q2 lj
          walk_at "ev"
          first | done | exact F
        · by_cases h6 : c5.fmod 8 = 1
          · clear w2 t0 t1 u0 u1 v0 v1 s0 s1 p2 q2 lj
            walk_at "ev"
            first | done | exact O
          · clear w2 t0 t1 u0 u1 v0 v1 s0 s1 p2 q2 lj
            walk_at "ev"
            first | done | exact E
      · by_cases h5 : c5.fmod 8 = 2
        · clear w2 t0 t1 u0 u1 v0 v1 s0 s1 p2 q2 lj
          walk_at "ev"
          first | done | exact F
        · by_cases h6 : c5.fmod 8 = 1
          · clear w2 t0 t1 u0 u1 v0 v1 s0 s1 p2 q2 lj
            walk_at "ev"
            first | done | exact O
          · clear w2 t0 t1 u0 u1 v0 v1 s0 s1 p2 q2 lj
            walk_at "ev"
            first | done | exact J
  obtain ⟨o, os, h, d, rfl, rfl, h2⟩ := H.get
  exact ⟨d, h, h2⟩
def wld (c : Nat) : Bool := decide (c ∈ zl (PySem.Str.ofString "?*"))
theorem wld_e (c : Nat) : wld c = (decide (c = 63) || decide (c = 42)) := by
  have e : zl (PySem.Str.ofString "?*") = [63, 42] := by decide +kernel
  unfold wld
  rw [e]
  by_cases h : c = 63
  · subst h; rfl
  · by_cases h2 : c = 42
    · subst h2; rfl
    · simp [h, h2]
theorem one_lt (a b : Nat) : (zl (one a) < zl (one b)) ↔ a < b := by
  show List.lt [a] [b] ↔ _
  constructor
  · intro h
    cases h with
    | rel h => exact h
    | cons h => cases h
  · exact fun h => .rel h
theorem ab_e (c : Nat) : ab c = (decide (97 ≤ c) && decide (c ≤ 122)) := by
  by_cases h : 97 ≤ c ∧ c ≤ 122
  · rw [ab_of h, decide_eq_true h.1, decide_eq_true h.2]; rfl
  · have e : (decide (97 ≤ c) && decide (c ≤ 122)) = false := by
      rw [← Bool.decide_and]; exact decide_eq_false h
    rw [e]
    unfold ab
    rw [show zl (PySem.Str.ofString "abcdefghijklmnopqrstuvwxyz") = _ from abc_zl]
    refine decide_eq_false fun z => h ?_
    simp only [List.mem_cons, List.not_mem_nil, or_false] at z
    omega
def cnt (f : Nat → Bool) (l : List Nat) : Int := (l.countP f : Int)
theorem cnt_app (f : Nat → Bool) (l : List Nat) (c : Nat) : cnt f (l ++ [c]) = cnt f l + (if f c then 1 else 0) := by
  unfold cnt
  rw [List.countP_append, List.countP_singleton]
  cases f c <;> simp
theorem psg_cnt (l : List Nat) : cnt ab l + cnt wld l = (l.length : Int) ↔ l.all psg = true := by
  unfold cnt
  have key : l.countP ab + l.countP wld = l.countP psg := by
    induction l with
    | nil => rfl
    | cons c l ih =>
      rw [List.countP_cons, List.countP_cons, List.countP_cons, ← ih]
      have : psg c = (ab c || wld c) := rfl
      rw [this]
      have d : ab c = true → wld c = false := fun h => by
        rw [ab_e] at h; rw [wld_e]
        simp at h
        simp; omega
      cases ha : ab c with
      | true => rw [d ha]; simp; omega
      | false => cases wld c <;> simp <;> omega
  have e : l.all psg = true ↔ l.countP psg = l.length := by rw [List.all_eq_true, List.countP_eq_length]
  rw [e, ← key]
  omega
theorem due_turn (z : Str) (l : List Nat) (c : Nat) (q : Option O) (hc : c < 128) (q3 : Option O) : Ev (B__law_due_0 [some (.fr (.str z)), some (iO (cnt ab l)), some (iO (cnt wld l)), some (sO (one c)), q])
    (fun fl e => fl = .next ∧ e = [some (.fr (.str z)), some (iO (cnt ab (l ++ [c]))), some (iO (cnt wld (l ++ [c]))), some (sO (one c)), q]) (fun _ _ => False) := by
  have e1 : PySem.Str.ofString "a" = one 97 := by decide +kernel
  have e2 : PySem.Str.ofString "z" = one 122 := by decide +kernel
  have e3 : PySem.Str.ofString "?" = one 63 := by decide +kernel
  have e4 : PySem.Str.ofString "*" = one 42 := by decide +kernel
  have i1 : ∀ a b : Nat, (one a = one b) ↔ a = b := fun a b => ⟨fun h => by injection h with h; simpa using h, fun h => by rw [h]⟩
  have l1 : gLe [.str (PySem.Str.ofString "a"), .str (one c)] = some (bO (decide (97 ≤ c))) := by
    rw [gLe_z, e1]
    congr 2
    have := one_lt c 97
    by_cases h : 97 ≤ c
    · rw [decide_eq_true h, decide_eq_false (fun z => by have := this.mp z; omega)]; rfl
    · rw [decide_eq_false h, decide_eq_true (this.mpr (by omega))]; rfl
  have l2 : gLe [.str (one c), .str (PySem.Str.ofString "z")] = some (bO (decide (c ≤ 122))) := by
    rw [gLe_z, e2]
    congr 2
    have := one_lt 122 c
    by_cases h : c ≤ 122
    · rw [decide_eq_true h, decide_eq_false (fun z => by have := this.mp z; omega)]; rfl
    · rw [decide_eq_false h, decide_eq_true (this.mpr (by omega))]; rfl
  have l3 : gEq [.str (one c), .str (PySem.Str.ofString "?")] = some (bO (decide (c = 63))) := by
    rw [gEq_z, e3]
    congr 2
    exact decide_eq_decide.mpr (i1 c 63)
  have l4 : gEq [.str (one c), .str (PySem.Str.ofString "*")] = some (bO (decide (c = 42))) := by
    rw [gEq_z, e4]
    congr 2
    exact decide_eq_decide.mpr (i1 c 42)
  have f1 : cnt ab (l ++ [c]) = _ := cnt_app ab l c
  have f2 : cnt wld (l ++ [c]) = _ := cnt_app wld l c
  rw [ab_e] at f1
  rw [wld_e] at f2
  generalize cnt ab (l ++ [c]) = A' at *
  generalize cnt wld (l ++ [c]) = W' at *
  generalize cnt ab l = A at *
  generalize cnt wld l = W at *
  unfold B__law_due_0
  clear e1 e2 e3 e4 i1 hc
  cases h1 : decide (97 ≤ c) <;> cases h2 : decide (c ≤ 122) <;> cases h3 : decide (c = 63) <;> cases h4 : decide (c = 42) <;> (rw [h1, h2] at f1; rw [h3, h4] at f2; simp only [h1] at l1; simp only [h2] at l2; simp only [h3] at l3; simp only [h4] at l4; clear h1 h2 h3 h4; simp at f1 f2; subst f1 f2; walk_at "ev")
/-- what the law says of a value: letters, a pattern, plain -/
def plB (z : Str) : Bool := patB z && decide (cnt wld (zl z) = 0)
theorem lz_cnt (z : Str) : lz z = decide (cnt ab (zl z) = (z.length : Int)) := by
  have e : (zl z).all ab = true ↔ (zl z).countP ab = (zl z).length := by rw [List.all_eq_true, List.countP_eq_length]
  have e2 : (zl z).length = z.length := rfl
  unfold lz cnt
  by_cases h : (zl z).countP ab = (zl z).length
  · rw [show ((zl z).all fun c => ab c) = (zl z).all ab from rfl, e.mpr h, decide_eq_true (by omega)]
  · rw [show ((zl z).all fun c => ab c) = (zl z).all ab from rfl, decide_eq_false (by omega)]
    exact Bool.eq_false_iff.mpr fun q => h (e.mp q)
theorem due_ok (z : Str) (h : ∀ c ∈ zl z, c < 128) (hl : z.length ≤ 1000) : F__law_due [.fr (.str z)] = some (.ok (.fr (.tup [.bl (lz z), .bl (patB z), .bl (plB z)])) [.fr (.str z)]) := by
  have hs : z.length ≤ sizeLine := sz_of (by omega)
  have H : FEv (F__law_due [.fr (.str z)]) (@hq _ _ ⟨fun o os => o = .fr (.tup [.bl (lz z), .bl (patB z), .bl (plB z)]) ∧ os = [.fr (.str z)]⟩) (fun _ _ => False) := by
    unfold F__law_due G__law_due
    walk_at "ev"
    refine Ev_forZ (fun done e => @Dn.hb _ ⟨fun e => ∃ q3 q4, e = [some (.fr (.str z)), some (iO (cnt ab done)), some (iO (cnt wld done)), q3, q4]⟩ e) _ ⟨none, none, rfl⟩ ?_ ?_
    · rintro pre c post e he ⟨q3, q4, rfl⟩
      refine ⟨_, rfl, ?_⟩
      refine (due_turn z pre c q4 (h c (by rw [he]; simp)) q3).mono ?_ fun _ _ z => z.elim
      rintro fl e ⟨rfl, rfl⟩
      exact ⟨_, _, rfl⟩
    · rintro e ⟨q3, q4, rfl⟩
      have e1 := lz_cnt z
      have p1 := psg_cnt (zl z)
      have e0 : ((zl z).length : Int) = (z.length : Int) := rfl
      rw [e0] at p1
      have e2 : patB z = (decide (cnt ab (zl z) + cnt wld (zl z) = (z.length : Int)) && (decide ((z.length : Int) ≤ 8) && decide ((Txt.count z (PySem.Str.ofString "*") : Int) ≤ 2))) := by
        have b1 : decide (z.length ≤ 8) = decide ((z.length : Int) ≤ 8) := decide_eq_decide.mpr (by omega)
        unfold patB
        rw [b1]
        by_cases q : cnt ab (zl z) + cnt wld (zl z) = (z.length : Int)
        · rw [decide_eq_true q, p1.mp q, Bool.and_true, Bool.true_and]
        · rw [decide_eq_false q, show (zl z).all psg = false from Bool.eq_false_iff.mpr fun w => q (p1.mpr w), Bool.and_false, Bool.and_false, Bool.false_and]
      have e3 : plB z = (patB z && decide (cnt wld (zl z) = 0)) := rfl
      generalize patB z = PB at *
      generalize lz z = LB at *
      generalize plB z = QB at *
      generalize cnt ab (zl z) = A at *
      generalize cnt wld (zl z) = W at *
      have fin : ∀ a b c : Bool, a = LB → b = PB → c = QB → @hq O (List O) ⟨fun o os => o = .fr (.tup [.bl LB, .bl PB, .bl QB]) ∧ os = [.fr (.str z)]⟩ (.fr (.tup [.bl a, .bl b, .bl c])) [.fr (.str z)] := fun a b c h1 h2 h3 => hqi ⟨by rw [h1, h2, h3], rfl⟩
      clear p1 e0 h hl
      by_cases h1 : A + W = (z.length : Int)
      · by_cases h2 : (z.length : Int) ≤ 8
        · by_cases h3 : (Txt.count z (PySem.Str.ofString "*") : Int) ≤ 2
          · rw [decide_eq_true h1, decide_eq_true h2, decide_eq_true h3] at e2
            simp only [Bool.and_true, Bool.true_and] at e2
            subst e2
            simp only [Bool.true_and] at e3
            have f := fin _ true _ e1.symm rfl e3.symm
            clear fin e1 e3
            walk_at "ev"
            first | done | exact f
          · rw [decide_eq_false h3] at e2
            simp only [Bool.and_false] at e2
            subst e2
            simp only [Bool.false_and] at e3
            have f := fin _ false _ e1.symm rfl e3.symm
            clear fin e1 e3
            walk_at "ev"
            first | done | exact f
        · rw [decide_eq_false h2] at e2
          simp only [Bool.and_false, Bool.false_and] at e2
          subst e2
          simp only [Bool.false_and] at e3
          have f := fin _ false _ e1.symm rfl e3.symm
          clear fin e1 e3
          walk_at "ev"
          first | done | exact f
      · rw [decide_eq_false h1] at e2
        simp only [Bool.false_and] at e2
        subst e2
        simp only [Bool.false_and] at e3
        have f := fin _ false _ e1.symm rfl e3.symm
        clear fin e1 e3
        walk_at "ev"
        first | done | exact f
  obtain ⟨o, os, h, rfl, rfl⟩ := H.get
  exact h
theorem wld0 (z : Str) : (cnt wld (zl z) = 0) ↔ ¬ 63 ∈ zl z ∧ ¬ 42 ∈ zl z := by
  unfold cnt
  have e : (zl z).countP wld = 0 ↔ ∀ c ∈ zl z, ¬ wld c = true := by rw [List.countP_eq_zero]
  constructor
  · intro h
    have h := e.mp (by omega)
    exact ⟨fun q => h _ q (by decide +kernel), fun q => h _ q (by decide +kernel)⟩
  · rintro ⟨h1, h2⟩
    have : (zl z).countP wld = 0 := e.mpr fun c hc hw => by
      rw [wld_e] at hw
      simp at hw
      rcases hw with rfl | rfl
      · exact h1 hc
      · exact h2 hc
    omega
theorem plain_ok (z : Str) (hp : patB z = true) : F_is_plain [.fr (.str z)] = some (.ok (bO (plB z)) [.fr (.str z)]) := by
  have e3 : PySem.Str.ofString "?" = one 63 := by decide +kernel
  have e4 : PySem.Str.ofString "*" = one 42 := by decide +kernel
  have n1 : gNotIn [.str (PySem.Str.ofString "?"), .str z] = some (bO (!decide (63 ∈ zl z))) := by rw [e3]; exact nr rfl
  have n2 : gNotIn [.str (PySem.Str.ofString "*"), .str z] = some (bO (!decide (42 ∈ zl z))) := by rw [e4]; exact nr rfl
  have w := wld0 z
  have e : plB z = (!decide (63 ∈ zl z) && !decide (42 ∈ zl z)) := by
    unfold plB
    rw [hp, Bool.true_and]
    by_cases a : 63 ∈ zl z
    · rw [decide_eq_true a, decide_eq_false fun q => (w.mp q).1 a]; rfl
    · by_cases b : 42 ∈ zl z
      · rw [decide_eq_true b, decide_eq_false fun q => (w.mp q).2 b]; simp
      · rw [decide_eq_false a, decide_eq_false b, decide_eq_true (w.mpr ⟨a, b⟩)]; rfl
  rw [e]
  generalize decide (63 ∈ zl z) = B1 at *
  generalize decide (42 ∈ zl z) = B2 at *
  unfold F_is_plain G_is_plain
  clear e3 e4 w hp e
  cases B1 <;> walk_at "ev"
theorem is_ok (b : Bool) : F__law_is [.fr (.bl b), .fr (.bl b)] = some (.ok (bO true) [.fr (.bl b), .fr (.bl b)]) := by
  unfold F__law_is G__law_is
  walk_at "ev"
def pD : D → Bool
  | .str z => patB z
  | _ => false
theorem pat_any {d : D} (h : V4 d) : F_is_pattern [.fr d] = some (.ok (bO (pD d)) [.fr d]) := by
  cases h with
  | str z h hl => exact ispat_ok z (by omega)
  | odd _ h =>
    unfold odd4 at h
    simp only [List.mem_cons, List.not_mem_nil, or_false] at h
    unfold F_is_pattern G_is_pattern
    rcases h with rfl | rfl | rfl | rfl | rfl | rfl | rfl | rfl <;> (unfold pD; dsimp only; walk_at "ev")
def tD : D → D
  | .str z => .tup [.bl (lz z), .bl (patB z), .bl (plB z)]
  | _ => .tup [.bl false, .bl false, .bl false]
def lD : D → Bool
  | .str z => lz z
  | _ => false
theorem due_any {d : D} (h : V4 d) : F__law_due [.fr d] = some (.ok (.fr (tD d)) [.fr d]) := by
  cases h with
  | str z h hl => exact due_ok z h (by omega)
  | odd _ h =>
    unfold odd4 at h
    simp only [List.mem_cons, List.not_mem_nil, or_false] at h
    unfold F__law_due G__law_due
    rcases h with rfl | rfl | rfl | rfl | rfl | rfl | rfl | rfl <;> (unfold tD; dsimp only; walk_at "ev")
theorem text_any {d : D} (h : V4 d) : F_is_text [.fr d] = some (.ok (bO (lD d)) [.fr d]) := by
  cases h with
  | str z h hl => exact is_text_z z (by omega)
  | odd _ h =>
    unfold odd4 at h
    simp only [List.mem_cons, List.not_mem_nil, or_false] at h
    unfold F_is_text G_is_text
    rcases h with rfl | rfl | rfl | rfl | rfl | rfl | rfl | rfl <;> (unfold lD; dsimp only; walk_at "ev")
theorem tabs4 : isaL tab_TalkError (PySem.Str.ofString "BadPattern") = some true ∧ isaL tab_BadPattern (PySem.Str.ofString "BadPattern") = some true ∧ isaL tab_TooManyPatterns (PySem.Str.ofString "BadPattern") = some false ∧ isaL tab_ValueError (PySem.Str.ofString "BadPattern") = some true := by decide +kernel
theorem in4 : PySem.Str.ofString "BadPattern" ∈ xcs := by decide +kernel
theorem hand4 (d : D) {t : Str} (ht : gRepr [d] = some (sO t)) {Q : PostE Fl} {X : PostE Exn} (h : Q.run (.ret (bO true)) [some (.fr d), some (bO false), none, none]) :
    @HandT 3 H__law_asks_check_0 Q X ⟨PySem.Str.ofString "BadPattern", xfs (PySem.Str.ofString "BadPattern") d⟩ [some (.fr d), some (bO false), none, none] :=
  HandT.of (.ret (bO true)) _ (fun a dd => by
    obtain ⟨x1, x2, x3, x4⟩ := tabs4
    have x5 := in4
    clear h
    unfold H__law_asks_check_0
    walk_at "ev") h
theorem asks_ok {d : D} (h : V4 d) : F__law_asks_check [.fr d, .fr (.bl (pD d))] = some (.ok (bO true) [.fr d, .fr (.bl (pD d))]) := by
  obtain ⟨t, ht⟩ := h.repr
  have hp := pat_any h
  have H : FEv (F__law_asks_check [.fr d, .fr (.bl (pD d))]) (@hq _ _ ⟨fun o os => o = bO true ∧ os = [.fr d, .fr (.bl (pD d))]⟩) (fun _ _ => False) := by
    unfold F__law_asks_check G__law_asks_check F_check_pattern G_check_pattern
    obtain ⟨x1, x2, x3, x4⟩ := tabs4
    clear h
    cases hb : pD d with
    | true =>
      rw [hb] at hp
      clear hb
      walk_at "ev"
      exact hqi ⟨rfl, rfl⟩
    | false =>
      rw [hb] at hp
      clear hb
      walk_at "ev"
      refine hand4 d ht ?_
      walk_at "ev"
      exact hqi ⟨rfl, rfl⟩
  obtain ⟨o, os, h, rfl, rfl⟩ := H.get
  exact h
theorem law_true (ns : List Int) (hl : ns.length ≤ 63) : ∃ os, F_law [.fr (.scr ns)] = some (.ok (bO true) os) := by
  obtain ⟨d, v1, v2⟩ := value_ok ns
  have h1 := due_any v2
  have h2 := text_any v2
  have h3 := pat_any v2
  have h4 := asks_ok v2
  have h5 := is_ok
  have H : FEv (F_law [.fr (.scr ns)]) (@hq _ _ ⟨fun o os => o = bO true⟩) (fun _ _ => False) := by
    unfold F_law G_law
    cases v2 with
    | str z hz hzl =>
      have h6 := plain_ok z
      have e1 : tD (.str z) = .tup [.bl (lz z), .bl (patB z), .bl (plB z)] := rfl
      have e2 : pD (.str z) = patB z := rfl
      have e3 : lD (.str z) = lz z := rfl
      rw [e1] at h1
      rw [e3] at h2
      rw [e2] at h3 h4
      cases hb : patB z with
      | true =>
        have h6 := h6 hb
        rw [hb] at h1 h3 h4
        clear hb e1 e2 e3 hz hzl hl
        walk_at "ev"
        exact hqi rfl
      | false =>
        rw [hb] at h1 h3 h4
        clear hb e1 e2 e3 hz hzl hl h6
        walk_at "ev"
        exact hqi rfl
    | odd _ h =>
      have hn : ∀ z, d ≠ .str z := fun z e => by
        subst e
        unfold odd4 at h
        simp at h
      have e1 : tD d = .tup [.bl false, .bl false, .bl false] := by cases d <;> first | rfl | exact absurd rfl (hn _)
      have e2 : pD d = false := by cases d <;> first | rfl | exact absurd rfl (hn _)
      have e3 : lD d = false := by cases d <;> first | rfl | exact absurd rfl (hn _)
      rw [e1] at h1
      rw [e3] at h2
      rw [e2] at h3 h4
      clear e1 e2 e3 hn h hl
      walk_at "ev"
      exact hqi rfl
  obtain ⟨o, os, h, rfl⟩ := H.get
  exact ⟨os, h⟩
theorem all_mk {l : PySem.W.OpenLaw} {w : World} {K : PySem.W.Frag} {h : Heap} {mg : Str → Option Value} {fa : Addr} (X : K.In h) (G : h.Ns mainGlobals mg) (hfa : mg "law" = some (.ref fa)) (c : obsL hd_fa hd_fx hd_fn hd_ts K = valL hd_fn hd_ts w)
    : ∃ fd : FuncData, (∀ (s : Shared) (v : Value), BindsTo s fd ⟨[v], []⟩ [("_law_script", v)]) ∧ ∀ base : Heap, K.In base → base.Ns mainGlobals mg → FnG l.prog w K mg base (L2N.CX l.prog w) 6 fa fd [(PySem.Str.ofString "_law_script")] (spLaw K) := by
  obtain ⟨fd1, D1⟩ := sayD c 0 (d := hd__law_cell) rfl
  replace D1 : FunD K (PySem.Str.ofString "_law_cell") (PySem.Str.ofString "_law_cell") (defArgs s__law_cell) (defBody s__law_cell) (defScope s__law_cell) [] [] (He.ga K (PySem.Str.ofString "_law_cell")) fd1 := D1
  have F1 : Fun K (PySem.Str.ofString "_law_cell") (PySem.Str.ofString "_law_cell") s__law_cell (He.ga K (PySem.Str.ofString "_law_cell")) fd1 := He5.fun_of D1
  have k1 : PySem.W.keepIn K (.ref (He.ga K (PySem.Str.ofString "_law_cell"))) = true := D1.kp
  have a1 : mg (PySem.Str.ofString "_law_cell") = some (.ref (He.ga K (PySem.Str.ofString "_law_cell"))) := (He.glo_ok X G (sayA c 0 (f := .glo (PySem.Str.ofString "_law_cell")) rfl))
  obtain ⟨fd2, D2⟩ := sayD c 1 (d := hd__law_row) rfl
  replace D2 : FunD K (PySem.Str.ofString "_law_row") (PySem.Str.ofString "_law_row") (defArgs s__law_row) (defBody s__law_row) (defScope s__law_row) [] [] (He.ga K (PySem.Str.ofString "_law_row")) fd2 := D2
  have F2 : Fun K (PySem.Str.ofString "_law_row") (PySem.Str.ofString "_law_row") s__law_row (He.ga K (PySem.Str.ofString "_law_row")) fd2 := He5.fun_of D2
  have k2 : PySem.W.keepIn K (.ref (He.ga K (PySem.Str.ofString "_law_row"))) = true := D2.kp
  have a2 : mg (PySem.Str.ofString "_law_row") = some (.ref (He.ga K (PySem.Str.ofString "_law_row"))) := (He.glo_ok X G (sayA c 1 (f := .glo (PySem.Str.ofString "_law_row")) rfl))
  obtain ⟨fd3, D3⟩ := sayD c 2 (d := hd__law_value) rfl
  replace D3 : FunD K (PySem.Str.ofString "_law_value") (PySem.Str.ofString "_law_value") (defArgs s__law_value) (defBody s__law_value) (defScope s__law_value) [] [] (He.ga K (PySem.Str.ofString "_law_value")) fd3 := D3
  have F3 : Fun K (PySem.Str.ofString "_law_value") (PySem.Str.ofString "_law_value") s__law_value (He.ga K (PySem.Str.ofString "_law_value")) fd3 := He5.fun_of D3
  have k3 : PySem.W.keepIn K (.ref (He.ga K (PySem.Str.ofString "_law_value"))) = true := D3.kp
  have a3 : mg (PySem.Str.ofString "_law_value") = some (.ref (He.ga K (PySem.Str.ofString "_law_value"))) := (He.glo_ok X G (sayA c 2 (f := .glo (PySem.Str.ofString "_law_value")) rfl))
  obtain ⟨fd4, D4⟩ := sayD c 3 (d := hd__law_due) rfl
  replace D4 : FunD K (PySem.Str.ofString "_law_due") (PySem.Str.ofString "_law_due") (defArgs s__law_due) (defBody s__law_due) (defScope s__law_due) [] [] (He.ga K (PySem.Str.ofString "_law_due")) fd4 := D4
  have F4 : Fun K (PySem.Str.ofString "_law_due") (PySem.Str.ofString "_law_due") s__law_due (He.ga K (PySem.Str.ofString "_law_due")) fd4 := He5.fun_of D4
  have k4 : PySem.W.keepIn K (.ref (He.ga K (PySem.Str.ofString "_law_due"))) = true := D4.kp
  have a4 : mg (PySem.Str.ofString "_law_due") = some (.ref (He.ga K (PySem.Str.ofString "_law_due"))) := (He.glo_ok X G (sayA c 3 (f := .glo (PySem.Str.ofString "_law_due")) rfl))
  obtain ⟨fd5, D5⟩ := sayD c 4 (d := hd_is_pattern) rfl
  replace D5 : FunD K (PySem.Str.ofString "is_pattern") (PySem.Str.ofString "is_pattern") (defArgs s_is_pattern) (defBody s_is_pattern) (defScope s_is_pattern) [] [] (He.ga K (PySem.Str.ofString "is_pattern")) fd5 := D5
  have F5 : Fun K (PySem.Str.ofString "is_pattern") (PySem.Str.ofString "is_pattern") s_is_pattern (He.ga K (PySem.Str.ofString "is_pattern")) fd5 := He5.fun_of D5
  have k5 : PySem.W.keepIn K (.ref (He.ga K (PySem.Str.ofString "is_pattern"))) = true := D5.kp
  have a5 : mg (PySem.Str.ofString "is_pattern") = some (.ref (He.ga K (PySem.Str.ofString "is_pattern"))) := (He.glo_ok X G (sayA c 4 (f := .glo (PySem.Str.ofString "is_pattern")) rfl))
  obtain ⟨fd6, D6⟩ := sayD c 5 (d := hd_check_pattern) rfl
  replace D6 : FunD K (PySem.Str.ofString "check_pattern") (PySem.Str.ofString "check_pattern") (defArgs s_check_pattern) (defBody s_check_pattern) (defScope s_check_pattern) [] [] (He.ga K (PySem.Str.ofString "check_pattern")) fd6 := D6
  have F6 : Fun K (PySem.Str.ofString "check_pattern") (PySem.Str.ofString "check_pattern") s_check_pattern (He.ga K (PySem.Str.ofString "check_pattern")) fd6 := He5.fun_of D6
  have k6 : PySem.W.keepIn K (.ref (He.ga K (PySem.Str.ofString "check_pattern"))) = true := D6.kp
  have a6 : mg (PySem.Str.ofString "check_pattern") = some (.ref (He.ga K (PySem.Str.ofString "check_pattern"))) := (He.glo_ok X G (sayA c 5 (f := .glo (PySem.Str.ofString "check_pattern")) rfl))
  obtain ⟨fd7, D7⟩ := sayD c 6 (d := hd__law_asks_check) rfl
  replace D7 : FunD K (PySem.Str.ofString "_law_asks_check") (PySem.Str.ofString "_law_asks_check") (defArgs s__law_asks_check) (defBody s__law_asks_check) (defScope s__law_asks_check) [] [] (He.ga K (PySem.Str.ofString "_law_asks_check")) fd7 := D7
  have F7 : Fun K (PySem.Str.ofString "_law_asks_check") (PySem.Str.ofString "_law_asks_check") s__law_asks_check (He.ga K (PySem.Str.ofString "_law_asks_check")) fd7 := He5.fun_of D7
  have k7 : PySem.W.keepIn K (.ref (He.ga K (PySem.Str.ofString "_law_asks_check"))) = true := D7.kp
  have a7 : mg (PySem.Str.ofString "_law_asks_check") = some (.ref (He.ga K (PySem.Str.ofString "_law_asks_check"))) := (He.glo_ok X G (sayA c 6 (f := .glo (PySem.Str.ofString "_law_asks_check")) rfl))
  obtain ⟨fd8, D8⟩ := sayD c 7 (d := hd__law_is) rfl
  replace D8 : FunD K (PySem.Str.ofString "_law_is") (PySem.Str.ofString "_law_is") (defArgs s__law_is) (defBody s__law_is) (defScope s__law_is) [] [] (He.ga K (PySem.Str.ofString "_law_is")) fd8 := D8
  have F8 : Fun K (PySem.Str.ofString "_law_is") (PySem.Str.ofString "_law_is") s__law_is (He.ga K (PySem.Str.ofString "_law_is")) fd8 := He5.fun_of D8
  have k8 : PySem.W.keepIn K (.ref (He.ga K (PySem.Str.ofString "_law_is"))) = true := D8.kp
  have a8 : mg (PySem.Str.ofString "_law_is") = some (.ref (He.ga K (PySem.Str.ofString "_law_is"))) := (He.glo_ok X G (sayA c 7 (f := .glo (PySem.Str.ofString "_law_is")) rfl))
  obtain ⟨fd9, D9⟩ := sayD c 8 (d := hd_is_text) rfl
  replace D9 : FunD K (PySem.Str.ofString "is_text") (PySem.Str.ofString "is_text") (defArgs s_is_text) (defBody s_is_text) (defScope s_is_text) [] [] (He.ga K (PySem.Str.ofString "is_text")) fd9 := D9
  have F9 : Fun K (PySem.Str.ofString "is_text") (PySem.Str.ofString "is_text") s_is_text (He.ga K (PySem.Str.ofString "is_text")) fd9 := He5.fun_of D9
  have k9 : PySem.W.keepIn K (.ref (He.ga K (PySem.Str.ofString "is_text"))) = true := D9.kp
  have a9 : mg (PySem.Str.ofString "is_text") = some (.ref (He.ga K (PySem.Str.ofString "is_text"))) := (He.glo_ok X G (sayA c 8 (f := .glo (PySem.Str.ofString "is_text")) rfl))
  obtain ⟨fd10, D10⟩ := sayD c 9 (d := hd_is_plain) rfl
  replace D10 : FunD K (PySem.Str.ofString "is_plain") (PySem.Str.ofString "is_plain") (defArgs s_is_plain) (defBody s_is_plain) (defScope s_is_plain) [] [] (He.ga K (PySem.Str.ofString "is_plain")) fd10 := D10
  have F10 : Fun K (PySem.Str.ofString "is_plain") (PySem.Str.ofString "is_plain") s_is_plain (He.ga K (PySem.Str.ofString "is_plain")) fd10 := He5.fun_of D10
  have k10 : PySem.W.keepIn K (.ref (He.ga K (PySem.Str.ofString "is_plain"))) = true := D10.kp
  have a10 : mg (PySem.Str.ofString "is_plain") = some (.ref (He.ga K (PySem.Str.ofString "is_plain"))) := (He.glo_ok X G (sayA c 9 (f := .glo (PySem.Str.ofString "is_plain")) rfl))
  obtain ⟨fd11, D11⟩ := sayD c 10 (d := hd_law) rfl
  replace D11 : FunD K (PySem.Str.ofString "law") (PySem.Str.ofString "law") (defArgs s_law) (defBody s_law) (defScope s_law) [] [] (He.ga K (PySem.Str.ofString "law")) fd11 := D11
  have F11 : Fun K (PySem.Str.ofString "law") (PySem.Str.ofString "law") s_law (He.ga K (PySem.Str.ofString "law")) fd11 := He5.fun_of D11
  have k11 : PySem.W.keepIn K (.ref (He.ga K (PySem.Str.ofString "law"))) = true := D11.kp
  have a11 : mg (PySem.Str.ofString "law") = some (.ref (He.ga K (PySem.Str.ofString "law"))) := (He.glo_ok X G (sayA c 10 (f := .glo (PySem.Str.ofString "law")) rfl))
  have e := hfa.symm.trans a11
  cases e
  have m_ValueError : mg (PySem.Str.ofString "ValueError") = none := He.free_ok X G (sayA c 11 (f := .free (PySem.Str.ofString "ValueError")) rfl)
  have m_all : mg (PySem.Str.ofString "all") = none := He.free_ok X G (sayA c 12 (f := .free (PySem.Str.ofString "all")) rfl)
  have m_bool : mg (PySem.Str.ofString "bool") = none := He.free_ok X G (sayA c 13 (f := .free (PySem.Str.ofString "bool")) rfl)
  have m_int : mg (PySem.Str.ofString "int") = none := He.free_ok X G (sayA c 14 (f := .free (PySem.Str.ofString "int")) rfl)
  have m_isinstance : mg (PySem.Str.ofString "isinstance") = none := He.free_ok X G (sayA c 15 (f := .free (PySem.Str.ofString "isinstance")) rfl)
  have m_len : mg (PySem.Str.ofString "len") = none := He.free_ok X G (sayA c 16 (f := .free (PySem.Str.ofString "len")) rfl)
  have m_range : mg (PySem.Str.ofString "range") = none := He.free_ok X G (sayA c 17 (f := .free (PySem.Str.ofString "range")) rfl)
  have m_repr : mg (PySem.Str.ofString "repr") = none := He.free_ok X G (sayA c 18 (f := .free (PySem.Str.ofString "repr")) rfl)
  have m_str : mg (PySem.Str.ofString "str") = none := He.free_ok X G (sayA c 19 (f := .free (PySem.Str.ofString "str")) rfl)
  have g_SIGNS_MOST : ∃ u, mg (PySem.Str.ofString "SIGNS_MOST") = some u ∧ RelV (.int 8) u := let ⟨t, h⟩ := He.int_ok X G (sayA c 20 (f := .int (PySem.Str.ofString "SIGNS_MOST") (8)) rfl); ⟨_, h, ⟨t, rfl⟩⟩
  have g_STARS_MOST : ∃ u, mg (PySem.Str.ofString "STARS_MOST") = some u ∧ RelV (.int 2) u := let ⟨t, h⟩ := He.int_ok X G (sayA c 21 (f := .int (PySem.Str.ofString "STARS_MOST") (2)) rfl); ⟨_, h, ⟨t, rfl⟩⟩
  have g_LETTERS : ∃ u, mg (PySem.Str.ofString "LETTERS") = some u ∧ RelV (.str (PySem.Str.ofString "abcdefghijklmnopqrstuvwxyz")) u := let ⟨t, h⟩ := He.str_ok X G (sayA c 22 (f := .str (PySem.Str.ofString "LETTERS") (PySem.Str.ofString "abcdefghijklmnopqrstuvwxyz")) rfl); ⟨_, h, ⟨t, rfl⟩⟩
  refine ⟨fd11, fun s v => (D11.bindsA (ps := ["_law_script"]) fun _ _ _ _ _ _ us hl => match us, hl with | [_], _ => rfl) s [v] rfl, fun base Xb Gb => ?_⟩
  have A_TalkError : mg (PySem.Str.ofString "TalkError") = some (.ref (He.ga K (PySem.Str.ofString "TalkError"))) := (He.glo_ok X G (sayA c 23 (f := .glo (PySem.Str.ofString "TalkError")) rfl))
  have N_TalkError := exc_f (sayX c 0 (f := .exc (PySem.Str.ofString "TalkError")) rfl)
  have E_TalkError := ek_f A_TalkError N_TalkError
  have A_BadPattern : mg (PySem.Str.ofString "BadPattern") = some (.ref (He.ga K (PySem.Str.ofString "BadPattern"))) := (He.glo_ok X G (sayA c 24 (f := .glo (PySem.Str.ofString "BadPattern")) rfl))
  have N_BadPattern := exc_f (sayX c 1 (f := .exc (PySem.Str.ofString "BadPattern")) rfl)
  have E_BadPattern := ek_f A_BadPattern N_BadPattern
  have A_TooManyPatterns : mg (PySem.Str.ofString "TooManyPatterns") = some (.ref (He.ga K (PySem.Str.ofString "TooManyPatterns"))) := (He.glo_ok X G (sayA c 25 (f := .glo (PySem.Str.ofString "TooManyPatterns")) rfl))
  have N_TooManyPatterns := exc_f (sayX c 2 (f := .exc (PySem.Str.ofString "TooManyPatterns")) rfl)
  have E_TooManyPatterns := ek_f A_TooManyPatterns N_TooManyPatterns
  obtain ⟨fdi_TalkError, D_TalkError⟩ := sayD c 11 (d := hd_TalkError) rfl
  replace D_TalkError : FunD K (PySem.Str.ofString "__init__") (PySem.Str.ofString "TalkError.__init__") (defArgs m_TalkError) (defBody m_TalkError) (defScope m_TalkError) [.non] [] (He.ma K (He.ga K (PySem.Str.ofString "TalkError")) (PySem.Str.ofString "__init__")) fdi_TalkError := D_TalkError
  obtain ⟨iI_TalkError, tI_TalkError⟩ := exi_f (sayX c 3 (f := .exi (PySem.Str.ofString "TalkError")) rfl)
  obtain ⟨fdi_BadPattern, D_BadPattern⟩ := sayD c 12 (d := hd_BadPattern) rfl
  replace D_BadPattern : FunD K (PySem.Str.ofString "__init__") (PySem.Str.ofString "BadPattern.__init__") (defArgs m_BadPattern) (defBody m_BadPattern) (defScope m_BadPattern) [.non] [] (He.ma K (He.ga K (PySem.Str.ofString "BadPattern")) (PySem.Str.ofString "__init__")) fdi_BadPattern := D_BadPattern
  obtain ⟨iI_BadPattern, tI_BadPattern⟩ := exi_f (sayX c 4 (f := .exi (PySem.Str.ofString "BadPattern")) rfl)
  have o_init_TalkError := ok_init_TalkError (P := l.prog) (w := w) (mg := mg) (base := base) (funX_of D_TalkError)
  obtain ⟨rd0, sg0, cf0⟩ := exc0_f (sayX c 5 (f := .exc0 (PySem.Str.ofString "TalkError")) rfl)
  have E0 := er0_mk A_TalkError rd0 sg0 cf0 D_TalkError.kp o_init_TalkError (D_TalkError.binds1 (ps := ["self", "word", "place"]) 3 1 (by simp) rfl fun T kV doc pm an cdv ct us its l1 l2 => match us, l1, its, l2 with | [_, _, _], _, [_], _ => ⟨_, rfl, rfl⟩)
  have o_init_BadPattern := ok_init_BadPattern (P := l.prog) (w := w) (mg := mg) (base := base) (funX_of D_BadPattern) E0
  have e_BadPattern := er_mk E_BadPattern.er iI_BadPattern tI_BadPattern A_BadPattern o_init_BadPattern (D_BadPattern.binds1 (ps := ["self", "place"]) 2 1 (by simp) rfl fun T kV doc pm an cdv ct us its l1 l2 => match us, l1, its, l2 with | [_, _], _, [_], _ => ⟨_, rfl, rfl⟩) (D_BadPattern.binds1 (ps := ["self", "place"]) 1 0 (by simp) rfl fun T kV doc pm an cdv ct us its l1 l2 => match us, l1, its, l2 with | [_], _, [_], _ => ⟨_, rfl, rfl⟩)
  have xT : XfT K mg xcs := ⟨all_c (row_x E_TalkError) (all_c (row_x E_BadPattern) (all_c (row_x E_TooManyPatterns) (all_n)))⟩
  have k_TalkError : Ec K mg tab_TalkError "TalkError" := ⟨⟨_, A_TalkError, isa_all (P := fun y b => ∀ C', mg y = some (.ref C') → PySem.W.exmOne K (.ref C') (.ref (He.ga K (PySem.Str.ofString "TalkError"))) = some b) (all_c (row_e E_TalkError N_TalkError.eC N_TalkError.hC N_TalkError.tC (sub_f (sayX c 6 (f := .sub (PySem.Str.ofString "TalkError") (PySem.Str.ofString "TalkError") true) rfl))) (all_c (row_e E_BadPattern N_TalkError.eC N_TalkError.hC N_TalkError.tC (sub_f (sayX c 7 (f := .sub (PySem.Str.ofString "BadPattern") (PySem.Str.ofString "TalkError") true) rfl))) (all_c (row_e E_TooManyPatterns N_TalkError.eC N_TalkError.hC N_TalkError.tC (sub_f (sayX c 8 (f := .sub (PySem.Str.ofString "TooManyPatterns") (PySem.Str.ofString "TalkError") true) rfl))) (all_n))))⟩⟩
  have x_BadPattern : Ic K mg tab_BadPattern "BadPattern" := ⟨⟨_, A_BadPattern, ⟨isa_all (P := fun y b => ∀ C', mg y = some (.ref C') → ExcC K C' ∧ PySem.W.kitOne K (.ref C') (.ref (He.ga K (PySem.Str.ofString "BadPattern"))) = some b) (all_c (row_i E_TalkError (kit_c N_BadPattern.hC N_BadPattern.tC (sub_f (sayX c 9 (f := .sub (PySem.Str.ofString "TalkError") (PySem.Str.ofString "BadPattern") false) rfl)) (sub_f (sayX c 10 (f := .sub (PySem.Str.ofString "BadPattern") (PySem.Str.ofString "BadPattern") true) rfl)))) (all_c (row_i E_BadPattern (kit_c N_BadPattern.hC N_BadPattern.tC (sub_f (sayX c 10 (f := .sub (PySem.Str.ofString "BadPattern") (PySem.Str.ofString "BadPattern") true) rfl)) (sub_f (sayX c 10 (f := .sub (PySem.Str.ofString "BadPattern") (PySem.Str.ofString "BadPattern") true) rfl)))) (all_c (row_i E_TooManyPatterns (kit_c N_BadPattern.hC N_BadPattern.tC (sub_f (sayX c 11 (f := .sub (PySem.Str.ofString "TooManyPatterns") (PySem.Str.ofString "BadPattern") false) rfl)) (sub_f (sayX c 10 (f := .sub (PySem.Str.ofString "BadPattern") (PySem.Str.ofString "BadPattern") true) rfl)))) (all_n))))⟩⟩⟩
  have x_TooManyPatterns : Ic K mg tab_TooManyPatterns "TooManyPatterns" := ⟨⟨_, A_TooManyPatterns, ⟨isa_all (P := fun y b => ∀ C', mg y = some (.ref C') → ExcC K C' ∧ PySem.W.kitOne K (.ref C') (.ref (He.ga K (PySem.Str.ofString "TooManyPatterns"))) = some b) (all_c (row_i E_TalkError (kit_c N_TooManyPatterns.hC N_TooManyPatterns.tC (sub_f (sayX c 12 (f := .sub (PySem.Str.ofString "TalkError") (PySem.Str.ofString "TooManyPatterns") false) rfl)) (sub_f (sayX c 13 (f := .sub (PySem.Str.ofString "TooManyPatterns") (PySem.Str.ofString "TooManyPatterns") true) rfl)))) (all_c (row_i E_BadPattern (kit_c N_TooManyPatterns.hC N_TooManyPatterns.tC (sub_f (sayX c 14 (f := .sub (PySem.Str.ofString "BadPattern") (PySem.Str.ofString "TooManyPatterns") false) rfl)) (sub_f (sayX c 13 (f := .sub (PySem.Str.ofString "TooManyPatterns") (PySem.Str.ofString "TooManyPatterns") true) rfl)))) (all_c (row_i E_TooManyPatterns (kit_c N_TooManyPatterns.hC N_TooManyPatterns.tC (sub_f (sayX c 13 (f := .sub (PySem.Str.ofString "TooManyPatterns") (PySem.Str.ofString "TooManyPatterns") true) rfl)) (sub_f (sayX c 13 (f := .sub (PySem.Str.ofString "TooManyPatterns") (PySem.Str.ofString "TooManyPatterns") true) rfl)))) (all_n))))⟩⟩⟩
  have x_ValueError : Ib K mg tab_ValueError "ValueError" "ValueError" := ⟨m_ValueError, by decide +kernel, ⟨isa_all (P := fun y b => ∀ C', mg y = some (.ref C') → ExcC K C' ∧ PySem.W.kitOne K (.ref C') (.type "ValueError") = some b) (all_c (row_i E_TalkError (kit_b (by decide +kernel) (subT_f (sayX c 15 (f := .subT (PySem.Str.ofString "TalkError") "ValueError" true) rfl)))) (all_c (row_i E_BadPattern (kit_b (by decide +kernel) (subT_f (sayX c 16 (f := .subT (PySem.Str.ofString "BadPattern") "ValueError" true) rfl)))) (all_c (row_i E_TooManyPatterns (kit_b (by decide +kernel) (subT_f (sayX c 17 (f := .subT (PySem.Str.ofString "TooManyPatterns") "ValueError" true) rfl)))) (all_n))))⟩⟩
  have o__law_cell := ok__law_cell (P := l.prog) (w := w) (mg := mg) (base := base) F1 m_len
  have c__law_cell : Cl l.prog w K mg base 1 "_law_cell" 2 F__law_cell [] := cl_mk o__law_cell a1 k1 (F1.binds fun _ _ _ _ _ _ us hl => match us, hl with | [_, _], _ => rfl)
  have o__law_row := ok__law_row (P := l.prog) (w := w) (mg := mg) (base := base) F2 m_int m_range
  have c__law_row : Cl l.prog w K mg base 1 "_law_row" 3 F__law_row [] := cl_mk o__law_row a2 k2 (F2.binds fun _ _ _ _ _ _ us hl => match us, hl with | [_, _, _], _ => rfl)
  have o__law_value := ok__law_value (P := l.prog) (w := w) (mg := mg) (base := base) F3 c__law_cell c__law_row m_int m_len
  have c__law_value : Cl l.prog w K mg base 2 "_law_value" 1 F__law_value [] := cl_mk o__law_value a3 k3 (F3.binds fun _ _ _ _ _ _ us hl => match us, hl with | [_], _ => rfl)
  have o__law_due := ok__law_due (P := l.prog) (w := w) (mg := mg) (base := base) F4 m_int m_isinstance m_len m_str
  have c__law_due : Cl l.prog w K mg base 1 "_law_due" 1 F__law_due [] := cl_mk o__law_due a4 k4 (F4.binds fun _ _ _ _ _ _ us hl => match us, hl with | [_], _ => rfl)
  have o_is_pattern := ok_is_pattern (P := l.prog) (w := w) (mg := mg) (base := base) F5 g_LETTERS g_SIGNS_MOST g_STARS_MOST m_all m_isinstance m_len m_str
  have c_is_pattern : Cl l.prog w K mg base 1 "is_pattern" 1 F_is_pattern [] := cl_mk o_is_pattern a5 k5 (F5.binds fun _ _ _ _ _ _ us hl => match us, hl with | [_], _ => rfl)
  have o_check_pattern := ok_check_pattern (P := l.prog) (w := w) (mg := mg) (base := base) F6 c_is_pattern e_BadPattern
  have c_check_pattern : Cl l.prog w K mg base 4 "check_pattern" 1 F_check_pattern [] := cl_mk o_check_pattern a6 k6 (F6.binds fun _ _ _ _ _ _ us hl => match us, hl with | [_], _ => rfl)
  have o__law_asks_check := ok__law_asks_check (P := l.prog) (w := w) (mg := mg) (base := base) F7 c_check_pattern k_TalkError m_isinstance m_repr xT x_BadPattern x_TooManyPatterns x_ValueError
  have c__law_asks_check : ClG l.prog w K mg base 5 "_law_asks_check" 2 F__law_asks_check [] := clG_mk o__law_asks_check a7 k7 (F7.binds fun _ _ _ _ _ _ us hl => match us, hl with | [_, _], _ => rfl)
  have o__law_is := ok__law_is (P := l.prog) (w := w) (mg := mg) (base := base) F8 m_bool m_isinstance
  have c__law_is : Cl l.prog w K mg base 1 "_law_is" 2 F__law_is [] := cl_mk o__law_is a8 k8 (F8.binds fun _ _ _ _ _ _ us hl => match us, hl with | [_, _], _ => rfl)
  have o_is_text := ok_is_text (P := l.prog) (w := w) (mg := mg) (base := base) F9 g_LETTERS m_all m_isinstance m_str
  have c_is_text : Cl l.prog w K mg base 1 "is_text" 1 F_is_text [] := cl_mk o_is_text a9 k9 (F9.binds fun _ _ _ _ _ _ us hl => match us, hl with | [_], _ => rfl)
  have o_is_plain := ok_is_plain (P := l.prog) (w := w) (mg := mg) (base := base) F10 
  have c_is_plain : Cl l.prog w K mg base 1 "is_plain" 1 F_is_plain [] := cl_mk o_is_plain a10 k10 (F10.binds fun _ _ _ _ _ _ us hl => match us, hl with | [_], _ => rfl)
  have o_law := ok_law (P := l.prog) (w := w) (mg := mg) (base := base) F11 c__law_asks_check c__law_due c__law_is c__law_value c_is_pattern c_is_plain c_is_text g_LETTERS
  exact law_spG o_law law_true
end Lw
open PySem PySem.W PySem.Calls PyProof.Rows
set_option maxHeartbeats 0 in
theorem PySem.Challenge.cw_talkalike_k04_forms_holds : PySem.Challenge.rw_talkalike_k04_forms.Holds := by
  w_on; o_law
  refine HandSHeadRun.head_any (r := Lw.hdR) (q := view Lw.hdR.prog [20]) (H := Dn.hookL Lw.hd_fa Lw.hd_fx Lw.hd_fn Lw.hd_ts) (ob := Dn.obL Lw.hd_fa Lw.hd_fx Lw.hd_fn Lw.hd_ts) (M := 20000) (loose := Lw.hd_names) (d := HandSHeadRun.topDef Lw.hdR.prog 20) (kwd := [])
    Dn.obL_eq (by kernel_rfl) (fun s => by kernel_rfl) Lw.hd_run (by kernel_rfl) (by kernel_rfl) (by kernel_rfl) (by rfl) (by first | assumption | decide +kernel) (by decide +kernel) ⟨rfl, rfl, rfl, rfl, rfl, by decide +kernel⟩ ?hw ?hc
  case hw => w_witness2
  case hc =>
    refine Dn.walk_LG (l := PySem.Challenge.rw_talkalike_k04_forms) (k := 6) (x := "_law_script") rfl (by kernel_rfl) ⟨rfl, by decide, by decide⟩ ?F
    intro w mg fa h Y G hm
    obtain ⟨K, KX, c⟩ := Y
    have hn : (HandSHeadRun.topDef Lw.hdR.prog 20).name = (PySem.Str.ofString "law") := by kernel_rfl
    rw [hn] at hm
    exact ⟨K, KX, Lw.all_mk KX G hm c⟩
