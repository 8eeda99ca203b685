import PyProof.Rows.All
import Wide.All
import OpenK.AllK
import Wide.FinOn
import HandS.ForMost
import HandS.Exc
import HandS.ExcField
import KE.KExcInit
import HandS.Head0
import HandS.Head1
import HandS.Head2
import HandS.HeadHook1
import HandS.HeadHook3
import KE.KStateDown
import HandS.IsInst
import HandS.Wide
import HandS.TupAny
import HandS.TupLe
import HandS.Style
import HandS.Deep
import HandS.Dict
import HandS.Iter
import HandS.ExcInit
import HandS.SortInts
import HandS.ListItems
import HandS.Zip
import HandS.Rev
import HandS.ExcCtx
import HandS.Hot
import HandS.HotCalls
import HandS.TupMul
import HandS.Conv
import HandS.More
import HandS.Star
import KE.KUnpackStar
import KE.GoesEnum
import KE.GoesMore
import KE.KTupSum
import HandS.DictComp
import HandS.TryMany
import HandS.Defaults
import HandS.SortKw
import KE.DataMinMax
import HandS.DictTup
import HandS.SortOrd
import HandS.SortRule
import HandS.TupSets
import KE.KDictDisplayH
import KE.GoesZip
import KE.KDictZip
import KE.GoesEnumKw
import KE.KItemsList
import KE.KDictWalk
import KE.KExcIs
import OpenK.KOps
import PySem.Challenge.RW_climborsink_k82_many_letters
set_option Elab.async false
set_option linter.all false
set_option autoImplicit false
set_option maxRecDepth 100000
set_option maxHeartbeats 1000000
/-! the head by one run in the kernel, the end's facts read by a Hook -/
namespace EV
open PySem PySem.Spec PyProof.Rows L2
/-! ### what is looked at: the top's values, what these reach -/
def refsX (o : Obj) : List Addr := match o.data with
  | .dict es _ => es.toList.flatMap fun e => He.refV e.val
  | .cls cd => [cd.ns]
  | .func fd => He.refV fd.code ++ He.refV fd.defaults
  | _ => []
def nxtX (g : Addr → Option Obj) (as : List Addr) : List Addr := as.flatMap fun a => match g a with
  | some o => refsX o
  | none => []
def asX (g : Addr → Option Obj) : Nat → List Addr → List Addr
  | 0, as => as
  | n + 1, as => as ++ asX g n (nxtX g as)
/-! ### defs with defaults -/
def fnObs2 (K : PySem.W.Frag) (p : Str × Option Str) : He.FnV := match K.lookup (He.fAd K p) with
  | some ⟨_, _, .func fd, _⟩ => some (fd.name, fd.qualname, fd.params, fd.body, fd.scope, fd.globals, fd.closure, .none, fd.builtins)
  | _ => none
/-! ### the Hook -/
abbrev AlH : Type := Bool × List He.FnV × List (Option (List (Option (Str × Int)))) × List He.FnV
def obsH (fb : PySem.W.Frag → Bool) (fn fd : List He.FnD) (ts : List He.Tab) (K : PySem.W.Frag) : AlH := (fb K && (fn ++ fd).all fun d => (He.Fa.code d.at_ d.qual).ok K, fn.map fun d => He.fnObs K d.at_, ts.map fun t => He.dicW K (t.1 K), fd.map fun d => fnObs2 K d.at_)
def valH (fn fd : List He.FnD) (ts : List He.Tab) (w : World) : AlH := (true, fn.map He.FnD.val, ts.map fun t => some (He.keysIn w.params t.2), fd.map He.FnD.val)
def obsHG (n : Nat) (fb : PySem.W.Frag → Bool) (fn fd : List He.FnD) (ts : List He.Tab) (g : Addr → Option Obj) : AlH := obsH fb fn fd ts (He.frG g (asX g n [mainGlobals]))
def SaysH (fb : PySem.W.Frag → Bool) (fn fd : List He.FnD) (ts : List He.Tab) (w : World) (K : PySem.W.Frag) : Prop := obsH fb fn fd ts K = valH fn fd ts w
def hookH (n : Nat) (fb : PySem.W.Frag → Bool) (fn fd : List He.FnD) (ts : List He.Tab) : PySem.W.Hook where
  α := AlH
  obs := fun s => obsHG n fb fn fd ts s.heap.get?
  val := fun w => valH fn fd ts w
  says := fun w h => ∃ K : PySem.W.Frag, K.In h ∧ SaysH fb fn fd ts w K
  of := fun _ _ e => ⟨_, He.frG_in, e⟩
  keeps := fun _ _ _ ⟨K, hK, c⟩ k => ⟨K, PySem.W.Frag.In.keeps hK k, c⟩
theorem obsHG_eq {n : Nat} {fb : PySem.W.Frag → Bool} {fn fd : List He.FnD} {ts : List He.Tab} {g : Addr → Option Obj} {s : Shared} (h : ∀ a, g a = s.heap.get? a) : obsHG n fb fn fd ts g = (hookH n fb fn fd ts).obs s := by
  have e : g = s.heap.get? := funext h
  rw [e] <;> rfl
section
variable {fb : PySem.W.Frag → Bool} {fn fd : List He.FnD} {ts : List He.Tab} {w : World} {K : PySem.W.Frag}
theorem SaysH.all (c : SaysH fb fn fd ts w K) : fb K = true ∧ ((fn ++ fd).all fun d => (He.Fa.code d.at_ d.qual).ok K) = true :=
  He.ba (show (fb K && (fn ++ fd).all fun d => (He.Fa.code d.at_ d.qual).ok K) = true from congrArg (fun z : AlH => z.1) c)
theorem SaysH.def_ (c : SaysH fb fn fd ts w K) (i : Nat) {d : He.FnD} (h : fn[i]? = some d) :
    ∃ oc od osl kV doc pm an cdv ct, K.lookup (He.fAd K d.at_) = some ⟨oc, od, .func (PySem.W.fnOf d.name d.qual d.params d.body d.scope .none kV doc pm an cdv ct), osl⟩ ∧ PySem.W.codeIn K cdv d.qual = true := by
  have c2 := c.all.2
  have e : fn.map (fun d => He.fnObs K d.at_) = fn.map He.FnD.val := congrArg (fun z : AlH => z.2.1) c
  have e2 : (fn.map fun d => He.fnObs K d.at_)[i]? = (fn.map He.FnD.val)[i]? := by rw [e]
  rw [List.getElem?_map, List.getElem?_map, h] at e2
  exact He.fn_ok (Option.some.inj e2) (List.all_eq_true.mp c2 d (List.mem_append_left _ (List.mem_of_getElem? h)))
end
/-! ### dicts, tuples -/
end EV
set_option Elab.async false
set_option linter.all false
set_option autoImplicit false
set_option maxRecDepth 100000
set_option maxHeartbeats 0
namespace LEND
open PySem PySem.Spec PyProof.Rows L2 EV
def top (i : Nat) : Stmt := PySem.Challenge.pw_climborsink_k82_many_letters.main.body.getD i (.Pass ⟨0, 0, 0, 0⟩)
abbrev s_NoLetter___init__ : Stmt := inClass (top 4) 0
abbrev s_is_whole : Stmt := top 11
abbrev s__law_urn : Stmt := top 15
abbrev s__law_draw : Stmt := top 16
abbrev s__law_whole : Stmt := top 17
abbrev s__law_which : Stmt := top 18
abbrev s__law_letter : Stmt := top 19
abbrev s__law_post_due : Stmt := top 20
abbrev s_Post_look_number : Stmt := inClass (top 13) 2
abbrev s_Post_carry : Stmt := inClass (top 13) 3
abbrev s_Post_send : Stmt := inClass (top 13) 1
abbrev s_Post_double : Stmt := inClass (top 13) 5
abbrev s_Post_lose : Stmt := inClass (top 13) 4
abbrev s__law_post_does : Stmt := top 21
abbrev s_Post_under_way : Stmt := inClass (top 13) 6
abbrev s_Post___len__ : Stmt := inClass (top 13) 8
abbrev s__law_post_stands : Stmt := top 22
abbrev s_Post___init__ : Stmt := inClass (top 13) 0
abbrev s__law_post_right : Stmt := top 23
abbrev s_law : Stmt := top 24
abbrev R : PySem.W.OpenRow := PySem.W.OpenLaw.row PySem.Challenge.rw_climborsink_k82_many_letters
abbrev qv : Program := PySem.W.view R.prog [24]
def names0 : List Str := [(Str.ofString "__name__"), (Str.ofString "NoSky"), (Str.ofString "NoWords"), (Str.ofString "NotAgreed"), (Str.ofString "NoLetter"), (Str.ofString "NoMotion"), (Str.ofString "NoTurn"), (Str.ofString "NoOrder"), (Str.ofString "NoDeed"), (Str.ofString "NoRow"), (Str.ofString "is_whole"), (Str.ofString "Post"), (Str.ofString "_law_urn"), (Str.ofString "_law_draw"), (Str.ofString "_law_whole"), (Str.ofString "_law_which"), (Str.ofString "_law_letter"), (Str.ofString "_law_post_due"), (Str.ofString "_law_post_does"), (Str.ofString "_law_post_stands"), (Str.ofString "_law_post_right")]
def names : List Str := names0
def FF0 (K : PySem.W.Frag) : Prop :=
  PySem.W.nsIn K mainGlobals "Post" = some (some (.ref (He.ga K "Post"))) ∧
  PySem.W.plainGet K (He.ga K "Post") Str.empty = true ∧
  PySem.W.hasDictIn K (He.ga K "Post") = true ∧
  PySem.W.plainOver K (He.ga K "Post") = true ∧
  PySem.W.findIn K (.ref (He.ga K "Post")) "__setattr__" = some (some (.builtin "object.__setattr__")) ∧
  PySem.W.makesIn K (He.ga K "Post") = true ∧
  PySem.W.keepIn K (.ref (He.ga K "Post")) = true ∧
  PySem.W.nsIn K mainGlobals "NoDeed" = some (some (.ref (He.ga K "NoDeed"))) ∧
  xfB K (He.ga K "NoDeed") = true ∧
  PySem.W.nsIn K mainGlobals "NoLetter" = some (some (.ref (He.ga K "NoLetter"))) ∧
  xfB K (He.ga K "NoLetter") = true ∧
  PySem.W.nsIn K mainGlobals "NoMotion" = some (some (.ref (He.ga K "NoMotion"))) ∧
  xfB K (He.ga K "NoMotion") = true ∧
  PySem.W.nsIn K mainGlobals "NoOrder" = some (some (.ref (He.ga K "NoOrder"))) ∧
  xfB K (He.ga K "NoOrder") = true ∧
  PySem.W.nsIn K mainGlobals "NoRow" = some (some (.ref (He.ga K "NoRow"))) ∧
  xfB K (He.ga K "NoRow") = true ∧
  PySem.W.nsIn K mainGlobals "NoSky" = some (some (.ref (He.ga K "NoSky"))) ∧
  xfB K (He.ga K "NoSky") = true ∧
  PySem.W.nsIn K mainGlobals "NoTurn" = some (some (.ref (He.ga K "NoTurn")))
instance (K : PySem.W.Frag) : Decidable (FF0 K) := by
  unfold FF0
  infer_instance
def FF1 (K : PySem.W.Frag) : Prop :=
  xfB K (He.ga K "NoTurn") = true ∧
  PySem.W.nsIn K mainGlobals "NoWords" = some (some (.ref (He.ga K "NoWords"))) ∧
  xfB K (He.ga K "NoWords") = true ∧
  PySem.W.nsIn K mainGlobals "NotAgreed" = some (some (.ref (He.ga K "NotAgreed"))) ∧
  xfB K (He.ga K "NotAgreed") = true ∧
  ((PySem.W.clsIn K (He.ga K "NoLetter")).isSome = true ∧ PySem.W.findIn K (.ref (He.ga K "NoLetter")) "__getattribute__" = some (some (.builtin "BaseException.__getattribute__")) ∧ PySem.W.findIn K (.ref (He.ga K "NoLetter")) "__getattr__" = some none ∧ PySem.W.subIn K (.ref (He.ga K "NoLetter")) (.type "BaseException") = some true ∧ PySem.W.findIn K (.ref (He.ga K "NoLetter")) "__class__" = some (some (.builtin "object.__class__")) ∧ PySem.W.specialIn K (.builtin "object.__class__") "__get__" = some (some (.builtin "getset_descriptor.__get__")) ∧ PySem.W.takesIn K (.builtin "object.__class__") = some true ∧ PySem.W.mroIn K (He.ga K "NoLetter") (.type "object") = some true) ∧
  PySem.W.keepIn K (.ref (He.ga K "NoDeed")) = true ∧
  PySem.W.keepIn K (.ref (He.ga K "NoLetter")) = true ∧
  PySem.W.keepIn K (.ref (He.ga K "NoMotion")) = true ∧
  PySem.W.keepIn K (.ref (He.ga K "NoOrder")) = true ∧
  PySem.W.keepIn K (.ref (He.ga K "NoRow")) = true ∧
  PySem.W.keepIn K (.ref (He.ga K "NoSky")) = true ∧
  PySem.W.keepIn K (.ref (He.ga K "NoTurn")) = true ∧
  PySem.W.keepIn K (.ref (He.ga K "NoWords")) = true ∧
  PySem.W.keepIn K (.ref (He.ga K "NotAgreed")) = true ∧
  PySem.W.excInitIn K (He.ga K "NoLetter") [.type "KeyError", .type "LookupError", .type "Exception", .type "BaseException", .type "object"] "LookupError.__new__" = true ∧
  PySem.W.excOver K (He.ga K "NoLetter") [.type "KeyError", .type "LookupError", .type "Exception", .type "BaseException", .type "object"] = true ∧
  PySem.W.findIn K (.ref (He.ga K "NoLetter")) "__setattr__" = some (some (.builtin "object.__setattr__")) ∧
  PySem.W.typeIn K (.ref (He.ga K "NoLetter")) = some (.type "type") ∧
  PySem.W.keepIn K (.ref (He.ga K "NoLetter")) = true
instance (K : PySem.W.Frag) : Decidable (FF1 K) := by
  unfold FF1
  infer_instance
def FF2 (K : PySem.W.Frag) : Prop :=
  PySem.W.findIn K (.ref (He.ga K "NoLetter")) "number" = some none ∧
  PySem.W.findIn K (.ref (He.ga K "NoLetter")) "__init__" = some (some (.ref (He.ma K (He.ga K "NoLetter") "__init__"))) ∧
  PySem.W.typeIn K (.ref (He.ma K (He.ga K "NoLetter") "__init__")) = some (.type "function") ∧
  PySem.W.keepIn K (.ref (He.ma K (He.ga K "NoLetter") "__init__")) = true ∧
  PySem.W.nsIn K mainGlobals "ArithmeticError" = some none ∧
  PySem.W.nsIn K mainGlobals "IndexError" = some none ∧
  PySem.W.nsIn K mainGlobals "KeyError" = some none ∧
  PySem.W.nsIn K mainGlobals "LookupError" = some none ∧
  PySem.W.nsIn K mainGlobals "OverflowError" = some none ∧
  PySem.W.nsIn K mainGlobals "RuntimeError" = some none ∧
  PySem.W.nsIn K mainGlobals "TypeError" = some none ∧
  PySem.W.nsIn K mainGlobals "ValueError" = some none ∧
  PySem.W.nsIn K mainGlobals "abs" = some none ∧
  PySem.W.nsIn K mainGlobals "bool" = some none ∧
  PySem.W.nsIn K mainGlobals "int" = some none ∧
  PySem.W.nsIn K mainGlobals "isinstance" = some none ∧
  PySem.W.nsIn K mainGlobals "len" = some none ∧
  PySem.W.nsIn K mainGlobals "list" = some none ∧
  PySem.W.nsIn K mainGlobals "max" = some none ∧
  PySem.W.nsIn K mainGlobals "min" = some none
instance (K : PySem.W.Frag) : Decidable (FF2 K) := by
  unfold FF2
  infer_instance
def FF3 (K : PySem.W.Frag) : Prop :=
  PySem.W.nsIn K mainGlobals "range" = some none ∧
  PySem.W.nsIn K mainGlobals "repr" = some none ∧
  PySem.W.nsIn K mainGlobals "sorted" = some none ∧
  PySem.W.nsIn K mainGlobals "tuple" = some none ∧
  PySem.W.findIn K (.ref (He.ga K "Post")) "__bool__" = some none ∧
  PySem.W.findIn K (.ref (He.ga K "Post")) "by_number" = some none ∧
  PySem.W.findIn K (.ref (He.ga K "Post")) "coming" = some none ∧
  PySem.W.kitOne K (.ref (He.ga K "NoLetter")) (.type "ArithmeticError") = some false ∧
  PySem.W.kitOne K (.ref (He.ga K "NoLetter")) (.type "IndexError") = some false ∧
  PySem.W.kitOne K (.ref (He.ga K "NoLetter")) (.type "KeyError") = some true ∧
  PySem.W.kitOne K (.ref (He.ga K "NoLetter")) (.type "LookupError") = some true ∧
  PySem.W.kitOne K (.ref (He.ga K "NoLetter")) (.type "OverflowError") = some false ∧
  PySem.W.kitOne K (.ref (He.ga K "NoLetter")) (.type "RuntimeError") = some false ∧
  PySem.W.kitOne K (.ref (He.ga K "NoLetter")) (.type "TypeError") = some false ∧
  PySem.W.kitOne K (.ref (He.ga K "NoLetter")) (.type "ValueError") = some false ∧
  PySem.W.kitOne K (.ref (He.ga K "NoLetter")) (.ref (He.ga K "NoDeed")) = some false ∧
  PySem.W.kitOne K (.ref (He.ga K "NoLetter")) (.ref (He.ga K "NoLetter")) = some true ∧
  PySem.W.kitOne K (.ref (He.ga K "NoLetter")) (.ref (He.ga K "NoMotion")) = some false ∧
  PySem.W.kitOne K (.ref (He.ga K "NoLetter")) (.ref (He.ga K "NoOrder")) = some false ∧
  PySem.W.kitOne K (.ref (He.ga K "NoLetter")) (.ref (He.ga K "NoRow")) = some false
instance (K : PySem.W.Frag) : Decidable (FF3 K) := by
  unfold FF3
  infer_instance
def FF4 (K : PySem.W.Frag) : Prop :=
  PySem.W.kitOne K (.ref (He.ga K "NoLetter")) (.ref (He.ga K "NoSky")) = some false ∧
  PySem.W.kitOne K (.ref (He.ga K "NoLetter")) (.ref (He.ga K "NoTurn")) = some false ∧
  PySem.W.kitOne K (.ref (He.ga K "NoLetter")) (.ref (He.ga K "NoWords")) = some false ∧
  PySem.W.kitOne K (.ref (He.ga K "NoLetter")) (.ref (He.ga K "NotAgreed")) = some false ∧
  PySem.W.exmOne K (.ref (He.ga K "NoLetter")) (.ref (He.ga K "NoLetter")) = some true ∧
  PySem.W.nsIn K mainGlobals "is_whole" = some (some (.ref (He.ga K "is_whole"))) ∧
  PySem.W.keepIn K (.ref (He.ga K "is_whole")) = true ∧
  PySem.W.nsIn K mainGlobals "_law_urn" = some (some (.ref (He.ga K "_law_urn"))) ∧
  PySem.W.keepIn K (.ref (He.ga K "_law_urn")) = true ∧
  PySem.W.nsIn K mainGlobals "_law_draw" = some (some (.ref (He.ga K "_law_draw"))) ∧
  PySem.W.keepIn K (.ref (He.ga K "_law_draw")) = true ∧
  PySem.W.nsIn K mainGlobals "_law_whole" = some (some (.ref (He.ga K "_law_whole"))) ∧
  PySem.W.keepIn K (.ref (He.ga K "_law_whole")) = true ∧
  PySem.W.nsIn K mainGlobals "_law_which" = some (some (.ref (He.ga K "_law_which"))) ∧
  PySem.W.keepIn K (.ref (He.ga K "_law_which")) = true ∧
  PySem.W.nsIn K mainGlobals "_law_letter" = some (some (.ref (He.ga K "_law_letter"))) ∧
  PySem.W.keepIn K (.ref (He.ga K "_law_letter")) = true ∧
  PySem.W.nsIn K mainGlobals "_law_post_due" = some (some (.ref (He.ga K "_law_post_due"))) ∧
  PySem.W.keepIn K (.ref (He.ga K "_law_post_due")) = true ∧
  PySem.W.findIn K (.ref (He.ga K "Post")) "look_number" = some (some (.ref (He.ma K (He.ga K "Post") "look_number")))
instance (K : PySem.W.Frag) : Decidable (FF4 K) := by
  unfold FF4
  infer_instance
def FF5 (K : PySem.W.Frag) : Prop :=
  PySem.W.isFn K (.ref (He.ma K (He.ga K "Post") "look_number")) = true ∧
  PySem.W.keepIn K (.ref (He.ma K (He.ga K "Post") "look_number")) = true ∧
  PySem.W.findIn K (.ref (He.ga K "Post")) "carry" = some (some (.ref (He.ma K (He.ga K "Post") "carry"))) ∧
  PySem.W.isFn K (.ref (He.ma K (He.ga K "Post") "carry")) = true ∧
  PySem.W.keepIn K (.ref (He.ma K (He.ga K "Post") "carry")) = true ∧
  PySem.W.findIn K (.ref (He.ga K "Post")) "send" = some (some (.ref (He.ma K (He.ga K "Post") "send"))) ∧
  PySem.W.isFn K (.ref (He.ma K (He.ga K "Post") "send")) = true ∧
  PySem.W.keepIn K (.ref (He.ma K (He.ga K "Post") "send")) = true ∧
  PySem.W.findIn K (.ref (He.ga K "Post")) "double" = some (some (.ref (He.ma K (He.ga K "Post") "double"))) ∧
  PySem.W.isFn K (.ref (He.ma K (He.ga K "Post") "double")) = true ∧
  PySem.W.keepIn K (.ref (He.ma K (He.ga K "Post") "double")) = true ∧
  PySem.W.findIn K (.ref (He.ga K "Post")) "lose" = some (some (.ref (He.ma K (He.ga K "Post") "lose"))) ∧
  PySem.W.isFn K (.ref (He.ma K (He.ga K "Post") "lose")) = true ∧
  PySem.W.keepIn K (.ref (He.ma K (He.ga K "Post") "lose")) = true ∧
  PySem.W.nsIn K mainGlobals "_law_post_does" = some (some (.ref (He.ga K "_law_post_does"))) ∧
  PySem.W.keepIn K (.ref (He.ga K "_law_post_does")) = true ∧
  PySem.W.findIn K (.ref (He.ga K "Post")) "under_way" = some (some (.ref (He.ma K (He.ga K "Post") "under_way"))) ∧
  PySem.W.isFn K (.ref (He.ma K (He.ga K "Post") "under_way")) = true ∧
  PySem.W.keepIn K (.ref (He.ma K (He.ga K "Post") "under_way")) = true ∧
  PySem.W.findIn K (.ref (He.ga K "Post")) "__len__" = some (some (.ref (He.ma K (He.ga K "Post") "__len__")))
instance (K : PySem.W.Frag) : Decidable (FF5 K) := by
  unfold FF5
  infer_instance
def FF6 (K : PySem.W.Frag) : Prop :=
  PySem.W.isFn K (.ref (He.ma K (He.ga K "Post") "__len__")) = true ∧
  PySem.W.keepIn K (.ref (He.ma K (He.ga K "Post") "__len__")) = true ∧
  PySem.W.nsIn K mainGlobals "_law_post_stands" = some (some (.ref (He.ga K "_law_post_stands"))) ∧
  PySem.W.keepIn K (.ref (He.ga K "_law_post_stands")) = true ∧
  PySem.W.findIn K (.ref (He.ga K "Post")) "__init__" = some (some (.ref (He.ma K (He.ga K "Post") "__init__"))) ∧
  PySem.W.isFn K (.ref (He.ma K (He.ga K "Post") "__init__")) = true ∧
  PySem.W.keepIn K (.ref (He.ma K (He.ga K "Post") "__init__")) = true ∧
  PySem.W.nsIn K mainGlobals "_law_post_right" = some (some (.ref (He.ga K "_law_post_right"))) ∧
  PySem.W.keepIn K (.ref (He.ga K "_law_post_right")) = true ∧
  PySem.W.nsIn K mainGlobals "law" = some (some (.ref (He.ga K "law"))) ∧
  PySem.W.keepIn K (.ref (He.ga K "law")) = true
instance (K : PySem.W.Frag) : Decidable (FF6 K) := by
  unfold FF6
  infer_instance
def fb (K : PySem.W.Frag) : Bool := decide (FF0 K) && (decide (FF1 K) && (decide (FF2 K) && (decide (FF3 K) && (decide (FF4 K) && (decide (FF5 K) && (decide (FF6 K)))))))
def d0 : He.FnD := ⟨("NoLetter", some "__init__"), "__init__", "NoLetter.__init__", defArgs s_NoLetter___init__, defBody s_NoLetter___init__, defScope s_NoLetter___init__⟩
def d1 : He.FnD := ⟨("is_whole", none), "is_whole", "is_whole", defArgs s_is_whole, defBody s_is_whole, defScope s_is_whole⟩
def d2 : He.FnD := ⟨("_law_urn", none), "_law_urn", "_law_urn", defArgs s__law_urn, defBody s__law_urn, defScope s__law_urn⟩
def d3 : He.FnD := ⟨("_law_draw", none), "_law_draw", "_law_draw", defArgs s__law_draw, defBody s__law_draw, defScope s__law_draw⟩
def d4 : He.FnD := ⟨("_law_whole", none), "_law_whole", "_law_whole", defArgs s__law_whole, defBody s__law_whole, defScope s__law_whole⟩
def d5 : He.FnD := ⟨("_law_which", none), "_law_which", "_law_which", defArgs s__law_which, defBody s__law_which, defScope s__law_which⟩
def d6 : He.FnD := ⟨("_law_letter", none), "_law_letter", "_law_letter", defArgs s__law_letter, defBody s__law_letter, defScope s__law_letter⟩
def d7 : He.FnD := ⟨("_law_post_due", none), "_law_post_due", "_law_post_due", defArgs s__law_post_due, defBody s__law_post_due, defScope s__law_post_due⟩
def d8 : He.FnD := ⟨("Post", some "look_number"), "look_number", "Post.look_number", defArgs s_Post_look_number, defBody s_Post_look_number, defScope s_Post_look_number⟩
def d9 : He.FnD := ⟨("Post", some "carry"), "carry", "Post.carry", defArgs s_Post_carry, defBody s_Post_carry, defScope s_Post_carry⟩
def d10 : He.FnD := ⟨("Post", some "send"), "send", "Post.send", defArgs s_Post_send, defBody s_Post_send, defScope s_Post_send⟩
def d11 : He.FnD := ⟨("Post", some "double"), "double", "Post.double", defArgs s_Post_double, defBody s_Post_double, defScope s_Post_double⟩
def d12 : He.FnD := ⟨("Post", some "lose"), "lose", "Post.lose", defArgs s_Post_lose, defBody s_Post_lose, defScope s_Post_lose⟩
def d13 : He.FnD := ⟨("_law_post_does", none), "_law_post_does", "_law_post_does", defArgs s__law_post_does, defBody s__law_post_does, defScope s__law_post_does⟩
def d14 : He.FnD := ⟨("Post", some "under_way"), "under_way", "Post.under_way", defArgs s_Post_under_way, defBody s_Post_under_way, defScope s_Post_under_way⟩
def d15 : He.FnD := ⟨("Post", some "__len__"), "__len__", "Post.__len__", defArgs s_Post___len__, defBody s_Post___len__, defScope s_Post___len__⟩
def d16 : He.FnD := ⟨("_law_post_stands", none), "_law_post_stands", "_law_post_stands", defArgs s__law_post_stands, defBody s__law_post_stands, defScope s__law_post_stands⟩
def d17 : He.FnD := ⟨("Post", some "__init__"), "__init__", "Post.__init__", defArgs s_Post___init__, defBody s_Post___init__, defScope s_Post___init__⟩
def d18 : He.FnD := ⟨("_law_post_right", none), "_law_post_right", "_law_post_right", defArgs s__law_post_right, defBody s__law_post_right, defScope s__law_post_right⟩
def d19 : He.FnD := ⟨("law", none), "law", "law", defArgs s_law, defBody s_law, defScope s_law⟩
def fn0 : List He.FnD := [d0, d1, d2, d3, d4, d5, d6, d7, d8, d9, d10, d11, d12, d13, d14, d15, d16, d17, d18, d19]
def fn : List He.FnD := fn0
def fd : List He.FnD := []
def ts : List He.Tab := []
abbrev hk : PySem.W.Hook := hookH 4 fb fn fd ts
def ob (s : PySem.W.SharedT) : AlH := obsHG 4 fb fn fd ts (HandSHeadRun.getT s)
theorem ob_eq (s : PySem.W.SharedT) : ob s = hk.obs s.abs := obsHG_eq (HandSHeadRun.getT_eq s)
theorem run (w : World) : HandSHeadRun.RunEq R qv hk ob 8000 names w :=
  PySem.W.byRow2 "special-get-raises" (P := fun w => HandSHeadRun.RunEq R qv hk ob 8000 names w) (fun w => by intro os; kernel_rfl) (fun w => by intro os; kernel_rfl) w
end LEND
section
open PySem PySem.W PySem.Calls PyProof.Rows
theorem LEND.fin (call : PySem.W.WalkO LEND.qv LEND.names (PySem.W.XL LEND.qv []) LEND.hk.says (PySem.W.OpenRow.toRowW LEND.R) (HandSHeadRun.topDef (OpenLaw.row PySem.Challenge.rw_climborsink_k82_many_letters).prog 24) [] fun f vs => PySem.call f vs) : PySem.Challenge.rw_climborsink_k82_many_letters.Holds := by
  w_on; o_law
  refine HandSHeadRun.head_any (r := OpenLaw.row PySem.Challenge.rw_climborsink_k82_many_letters) (q := LEND.qv) (H := LEND.hk) (ob := LEND.ob) (M := 8000) (loose := LEND.names) (d := HandSHeadRun.topDef (OpenLaw.row PySem.Challenge.rw_climborsink_k82_many_letters).prog 24) (kwd := []) LEND.ob_eq
    (by kernel_rfl) (fun s => by kernel_rfl) LEND.run (by kernel_rfl) (by kernel_rfl) (by kernel_rfl) (by rfl) (by first | assumption | decide +kernel) (by decide +kernel) ⟨rfl, rfl, rfl, rfl, rfl, by decide +kernel⟩ ?hw ?hc
  case hw => w_witness2
  case hc => exact call
end
set_option Elab.async false
set_option linter.all false
set_option autoImplicit false
set_option maxRecDepth 100000
set_option maxHeartbeats 400000
/-! data, the store, what stands for what -/
namespace EV
open PySem PySem.Spec PyProof.Rows L2
/-- a dict's key: an int or a text; a tuple of such -/
inductive DK where
  | k (x : Key) | t (xs : List Key)
  deriving DecidableEq, Inhabited
inductive D where
  | non | bl (b : Bool) | int (i : Int) | str (x : Str)
  | tup (xs : List D) | lst (xs : List D) | dct (kvs : List (DK × D)) | st (xs : List D)
  | ref (n : Nat) | fn (x : Str) | ty (n : String) | scr (xs : List Int)
  | exc (C : Str) (fs : List (Str × D))
  deriving Inhabited
/-- a slot of a frame, of an object: none, a value, an own list, an own dict (t: with tuples for keys) -/
inductive Slot where
  | un | vl (d : D) | ol (ds : List D) | od (t : Bool) (kvs : List (DK × D))
  deriving Inhabited
/-- an object that may change, of the store -/
inductive SObj where
  | cell (s : Slot)
  | ins (C : Str) (fs : List (Str × D))
  | gone
  deriving Inhabited
abbrev Store := List SObj
abbrev En := List Slot
/-- an error: its class by name, its fields -/
structure Er where
  cls : Str
  fs : List (Str × D)
  deriving Inhabited
inductive Res (α : Type) where
  | ok (a : α) (st : Store)
  | er (e : Er) (st : Store)
  | stuck
inductive ResS where
  | nx (env : En) (st : Store)
  | rt (d : D) (st : Store)
  | br (env : En) (st : Store)
  | ct (env : En) (st : Store)
  | er (e : Er) (env : En) (st : Store)
  | stuck
@[inline] def Res.bind {α β : Type} (r : Res α) (f : α → Store → Res β) : Res β :=
  match r with
  | .ok a st => f a st
  | .er e st => .er e st
  | .stuck => .stuck
/-- what stands for what: the frozen part of the heap, the store's objects with what they own -/
structure G where
  kp : Hp
  m : List (Addr × List Addr)
def G.rs (g : G) : List Addr := g.m.map (·.1)
def fpOf (m : List (Addr × List Addr)) : List Addr := m.flatMap fun p => p.2
def G.fp (g : G) : List Addr := fpOf g.m
/-- a tuple: tracked, or of the written part -/
def TupAt (K : PySem.W.Frag) (H : Hp) (a : Addr) (xs : List V) : Prop :=
  H a = some (.tup xs) ∨ (∃ o : Obj, K.lookup a = some o) ∧ False
theorem TupAt.tr {K : PySem.W.Frag} {H : Hp} {a : Addr} {xs : List V} (h : TupAt K H a xs) : H a = some (.tup xs) := h.elim id fun z => z.2.elim
/-- a tuple of the module -/
def KTup (K : PySem.W.Frag) (a : Addr) (xs : List V) : Prop :=
  ∃ (o : Obj) (its : Array Value) (n : Nat), K.lookup a = some o ∧ o.cls = .type "tuple" ∧ o.data = .seq its n ∧ its.size ≤ sizeLine ∧ Vals xs its.toList
/-- an exception that was caught, its object oe, of the class at c, with its dict at dd; it was raised where nothing was handled -/
def xcO (oe : Obj) (c dd : Addr) : HO := .frz oe (.ext fun _ => oe.cls = .ref c ∧ oe.dict = some dd ∧ ∃ vs, oe.data = .fields vs ∧ vs[2]? = some .none)
section
variable (K : PySem.W.Frag) (mg : Str → Option Value)
mutual
inductive Rep (g : G) : D → V → Prop
  | non : Rep g .non .non
  | bl (b : Bool) : Rep g (.bl b) (.bl b)
  | int (i : Int) : Rep g (.int i) (.int i)
  | str (x : Str) : Rep g (.str x) (.str x)
  | tup {a : Addr} {vs : List V} {ds : List D} : TupAt K g.kp a vs → RepL g ds vs → Rep g (.tup ds) (.ref a)
  | lst {a : Addr} {vs : List V} {ds : List D} : g.kp a = some (.lst vs) → RepL g ds vs → Rep g (.lst ds) (.ref a)
  | scr {a : Addr} {xs : List Int} : SqL K g.kp a (xs.map V.int) → Rep g (.scr xs) (.ref a)
  | ref {n : Nat} {a : Addr} : g.rs[n]? = some a → Rep g (.ref n) (.ref a)
  | fn {x : Str} {a : Addr} : mg x = some (.ref a) → PySem.W.keepIn K (.ref a) = true → Rep g (.fn x) (.ref a)
  | ty (n : String) : Rep g (.ty n) (.ty n)
  | kst {a : Addr} {vs : List V} {ds : List D} : KTup K a vs → RepL g ds vs → Rep g (.st ds) (.ref a)
  | dct {a : Addr} {ob : Obj} {o : HO} {kvs : List (DK × D)} : g.kp a = some (.frz ob o) → RepD g kvs o → Rep g (.dct kvs) (.ref a)
  | exc {C : Str} {c a dd : Addr} {oe : Obj} {fs : List (Str × D)} {zs : List (Str × V)} : mg C = some (.ref c) → g.kp a = some (xcO oe c dd) → g.kp dd = some (.xd zs) → RepF g fs zs → Rep g (.exc C fs) (.ref a)
inductive RepL (g : G) : List D → List V → Prop
  | nil : RepL g [] []
  | cons {d : D} {ds : List D} {v : V} {vs : List V} : Rep g d v → RepL g ds vs → RepL g (d :: ds) (v :: vs)
/-- a dict's entries -/
inductive RepD (g : G) : List (DK × D) → HO → Prop
  | nilK : RepD g [] (.dK [])
  | nilT : RepD g [] (.dT [])
  | consK {x : Key} {d : D} {v : V} {kvs : List (DK × D)} {zs : List (Key × V)} : Rep g d v → RepD g kvs (.dK zs) → RepD g ((.k x, d) :: kvs) (.dK ((x, v) :: zs))
  | consT {x : List Key} {d : D} {v : V} {kvs : List (DK × D)} {zs : List (List Key × V)} : Rep g d v → RepD g kvs (.dT zs) → RepD g ((.t x, d) :: kvs) (.dT ((x, v) :: zs))
/-- attributes -/
inductive RepF (g : G) : List (Str × D) → List (Str × V) → Prop
  | nil : RepF g [] []
  | cons {x : Str} {d : D} {v : V} {fs : List (Str × D)} {zs : List (Str × V)} : Rep g d v → RepF g fs zs → RepF g ((x, d) :: fs) ((x, v) :: zs)
end
end
section
variable {K : PySem.W.Frag} {mg : Str → Option Value}
theorem RepL.length {g : G} : ∀ {ds : List D} {vs : List V}, RepL K mg g ds vs → ds.length = vs.length
  | _, _, .nil => rfl
  | _, _, .cons _ t => by simp [RepL.length t]
theorem RepL.get {g : G} : ∀ {ds : List D} {vs : List V} {i : Nat} {d : D}, RepL K mg g ds vs → ds[i]? = some d → ∃ v, vs[i]? = some v ∧ Rep K mg g d v
  | _, _, _, _, .nil, e => by simp at e
  | _, _, 0, _, .cons r _, e => by simp at e; subst e; exact ⟨_, rfl, r⟩
  | _, _, i + 1, d, .cons _ t, e => by
    obtain ⟨u, h1, h2⟩ := RepL.get (i := i) (d := d) t (by simpa using e)
    exact ⟨u, by simpa using h1, h2⟩
theorem RepL.append {g : G} : ∀ {ds es : List D} {vs ws : List V}, RepL K mg g ds vs → RepL K mg g es ws → RepL K mg g (ds ++ es) (vs ++ ws)
  | _, _, _, _, .nil, s => s
  | _, _, _, _, .cons r t, s => .cons r (RepL.append t s)
theorem RepL.take {g : G} : ∀ {ds : List D} {vs : List V} (n : Nat), RepL K mg g ds vs → RepL K mg g (ds.take n) (vs.take n)
  | _, _, 0, _ => .nil
  | _, _, _ + 1, .nil => .nil
  | _, _, n + 1, .cons r t => .cons r (RepL.take n t)
theorem RepL.drop {g : G} : ∀ {ds : List D} {vs : List V} (n : Nat), RepL K mg g ds vs → RepL K mg g (ds.drop n) (vs.drop n)
  | _, _, 0, r => r
  | _, _, _ + 1, .nil => .nil
  | _, _, n + 1, .cons _ t => RepL.drop n t
theorem RepL.set {g : G} {d : D} {v : V} (r : Rep K mg g d v) : ∀ {ds : List D} {vs : List V} (i : Nat), RepL K mg g ds vs → RepL K mg g (ds.set i d) (vs.set i v)
  | _, _, _, .nil => .nil
  | _, _, 0, .cons _ t => .cons r t
  | _, _, i + 1, .cons q t => .cons q (RepL.set r i t)
theorem RepL.reverse {g : G} : ∀ {ds : List D} {vs : List V}, RepL K mg g ds vs → RepL K mg g ds.reverse vs.reverse
  | _, _, .nil => .nil
  | _, _, .cons r t => by rw [List.reverse_cons, List.reverse_cons]; exact (RepL.reverse t).append (.cons r .nil)
theorem RepL.one {g : G} {d : D} {vs : List V} (h : RepL K mg g [d] vs) : ∃ v, vs = [v] ∧ Rep K mg g d v := by
  cases h with
  | cons r t => cases t; exact ⟨_, rfl, r⟩
theorem RepL.two {g : G} {d e : D} {vs : List V} (h : RepL K mg g [d, e] vs) : ∃ v w, vs = [v, w] ∧ Rep K mg g d v ∧ Rep K mg g e w := by
  cases h with
  | cons r t =>
    obtain ⟨w, rfl, q⟩ := t.one
    exact ⟨_, _, rfl, r, q⟩
/-- the frozen part grows, the objects stay -/
structure Ext (g g' : G) : Prop where
  kp : ∀ a o, g.kp a = some o → g'.kp a = some o
  rs : ∀ (n : Nat) (a : Addr), g.rs[n]? = some a → g'.rs[n]? = some a
theorem Ext.refl (g : G) : Ext g g := ⟨fun _ _ h => h, fun _ _ h => h⟩
theorem Ext.trans {g g1 g2 : G} (a : Ext g g1) (b : Ext g1 g2) : Ext g g2 := ⟨fun c o h => b.kp c o (a.kp c o h), fun c o h => b.rs c o (a.rs c o h)⟩
theorem tupAt_ext {g g' : G} (e : Ext g g') {a : Addr} {vs : List V} (h : TupAt K g.kp a vs) : TupAt K g'.kp a vs := by
  rcases h with h | h
  · exact .inl (e.kp _ _ h)
  · exact .inr h
theorem sqL_ext {g g' : G} (e : Ext g g') {a : Addr} {vs : List V} (h : SqL K g.kp a vs) : SqL K g'.kp a vs := by
  rcases h with (h | ⟨o, h⟩) | h
  · exact .inl (.inl (e.kp _ _ h))
  · exact .inl (.inr ⟨o, e.kp _ _ h⟩)
  · exact .inr h
mutual
theorem Rep.ext {g g' : G} (e : Ext g g') : ∀ {d : D} {v : V}, Rep K mg g d v → Rep K mg g' d v
  | _, _, .non => .non
  | _, _, .bl b => .bl b
  | _, _, .int i => .int i
  | _, _, .str x => .str x
  | _, _, .tup h r => .tup (tupAt_ext e h) (RepL.ext e r)
  | _, _, .lst h r => .lst (e.kp _ _ h) (RepL.ext e r)
  | _, _, .scr h => .scr (sqL_ext e h)
  | _, _, .ref h => .ref (e.rs _ _ h)
  | _, _, .fn h k => .fn h k
  | _, _, .ty n => .ty n
  | _, _, .kst h r => .kst h (RepL.ext e r)
  | _, _, .dct h r => .dct (e.kp _ _ h) (RepD.ext e r)
  | _, _, .exc m h d r => .exc m (e.kp _ _ h) (e.kp _ _ d) (RepF.ext e r)
theorem RepL.ext {g g' : G} (e : Ext g g') : ∀ {ds : List D} {vs : List V}, RepL K mg g ds vs → RepL K mg g' ds vs
  | _, _, .nil => .nil
  | _, _, .cons r t => .cons (Rep.ext e r) (RepL.ext e t)
theorem RepD.ext {g g' : G} (e : Ext g g') : ∀ {kvs : List (DK × D)} {o : HO}, RepD K mg g kvs o → RepD K mg g' kvs o
  | _, _, .nilK => .nilK
  | _, _, .nilT => .nilT
  | _, _, .consK r t => .consK (Rep.ext e r) (RepD.ext e t)
  | _, _, .consT r t => .consT (Rep.ext e r) (RepD.ext e t)
theorem RepF.ext {g g' : G} (e : Ext g g') : ∀ {fs : List (Str × D)} {zs : List (Str × V)}, RepF K mg g fs zs → RepF K mg g' fs zs
  | _, _, .nil => .nil
  | _, _, .cons r t => .cons (Rep.ext e r) (RepF.ext e t)
end
/-- which kind of dict -/
def HO.isD : Bool → HO → Prop
  | false, .dK _ => True
  | true, .dT _ => True
  | _, _ => False
/-- a slot's content in the heap, with the addresses that it owns -/
inductive SlotOk (K : PySem.W.Frag) (mg : Str → Option Value) (g : G) (H : Hp) : Slot → Option V → List Addr → Prop
  | un (o : Option V) : SlotOk K mg g H .un o []
  | vl {d : D} {v : V} : Rep K mg g d v → SlotOk K mg g H (.vl d) (some v) []
  | ol {ds : List D} {a : Addr} {vs : List V} : H a = some (.lst vs) → RepL K mg g ds vs → SlotOk K mg g H (.ol ds) (some (.ref a)) [a]
  | od {t : Bool} {kvs : List (DK × D)} {a : Addr} {o : HO} : H a = some o → RepD K mg g kvs o → HO.isD t o → (kvs.map (·.1)).Nodup → SlotOk K mg g H (.od t kvs) (some (.ref a)) [a]
/-- a frame's slots -/
inductive EnvOk (K : PySem.W.Frag) (mg : Str → Option Value) (g : G) (H : Hp) : En → L2.St → List Addr → Prop
  | nil : EnvOk K mg g H [] [] []
  | cons {s : Slot} {o : Option V} {l : List Addr} {env : En} {σ : L2.St} {os : List Addr} : SlotOk K mg g H s o l → EnvOk K mg g H env σ os → EnvOk K mg g H (s :: env) (o :: σ) (l ++ os)
/-- an object of the store -/
inductive ObOk (K : PySem.W.Frag) (mg : Str → Option Value) (g : G) (H : Hp) : SObj → Addr × List Addr → Prop
  | cell {s : Slot} {a : Addr} : SlotOk K mg g H s (some (.ref a)) [a] → ObOk K mg g H (.cell s) (a, [a])
  | ins {C : Str} {fs : List (Str × D)} {zs : List (Str × V)} {a dx c : Addr} : mg C = some (.ref c) → H a = some (.ins c dx zs) → H dx = some (.own a) → dx ≠ a → RepF K mg g fs zs → ObOk K mg g H (.ins C fs) (a, [a, dx])
  | gone {a : Addr} : ObOk K mg g H .gone (a, [])
inductive StOk (K : PySem.W.Frag) (mg : Str → Option Value) (g : G) (H : Hp) : Store → List (Addr × List Addr) → Prop
  | nil : StOk K mg g H [] []
  | cons {o : SObj} {p : Addr × List Addr} {st : Store} {m : List (Addr × List Addr)} : ObOk K mg g H o p → StOk K mg g H st m → StOk K mg g H (o :: st) (p :: m)
/-- the state as a whole -/
structure SOk (K : PySem.W.Frag) (mg : Str → Option Value) (g : G) (st : Store) (H : Hp) : Prop where
  kp : ∀ a o, g.kp a = some o → H a = some o
  nd : g.fp.Nodup
  fr : ∀ a ∈ g.fp, g.kp a = none
  th : ∀ a ∈ g.fp, H a ≠ none
  ob : StOk K mg g H st g.m
/-- something that is no tuple stands there -/
def Ow : Option HO → Prop
  | none => False
  | some (.tup _) => False
  | _ => True
theorem Ow.ne {o : Option HO} (h : Ow o) : o ≠ none := fun e => by
  subst e
  exact h
theorem Ow.nt {o : Option HO} (h : Ow o) : ¬ ∃ xs, o = some (.tup xs) := fun ⟨xs, e⟩ => by
  subst e
  exact h
/-- what a frame owns -/
structure OsOk (g : G) (H : Hp) (os : List Addr) : Prop where
  nd : os.Nodup
  th : ∀ a ∈ os, Ow (H a)
  kp : ∀ a ∈ os, g.kp a = none
  fp : ∀ a ∈ os, a ∉ g.fp
structure Step (g : G) (H : Hp) (os : List Addr) (g' : G) (H' : Hp) (os' : List Addr) : Prop where
  ext : Ext g g'
  fr : ∀ a, H a ≠ none → a ∉ g.fp → a ∉ os → H' a = H a
  th : ∀ a, H a ≠ none → H' a ≠ none
  nf : ∀ a ∈ g'.fp, a ∈ g.fp ∨ H a = none ∨ a ∈ os
  nk : ∀ a, g'.kp a ≠ none → g.kp a ≠ none ∨ H a = none ∨ a ∈ os ∨ a ∈ g.fp ∨ ∃ xs, H a = some (.tup xs)
  no : ∀ a ∈ os', a ∈ os ∨ H a = none
theorem Step.refl {g : G} {H : Hp} {os : List Addr} : Step g H os g H os :=
  ⟨Ext.refl g, fun _ _ _ _ => rfl, fun _ h => h, fun _ h => .inl h, fun _ h => .inl h, fun _ h => .inl h⟩
theorem Step.trans {g g1 g2 : G} {H H1 H2 : Hp} {os os1 os2 : List Addr} (a : Step g H os g1 H1 os1) (b : Step g1 H1 os1 g2 H2 os2) : Step g H os g2 H2 os2 where
  ext := a.ext.trans b.ext
  fr := fun x h hf ho => by
    have e := a.fr x h hf ho
    have h1 : H1 x ≠ none := a.th x h
    have f1 : x ∉ g1.fp := fun z => by
      rcases a.nf x z with q | q | q
      · exact hf q
      · exact h q
      · exact ho q
    have o1 : x ∉ os1 := fun z => by
      rcases a.no x z with q | q
      · exact ho q
      · exact h q
    rw [b.fr x h1 f1 o1, e]
  th := fun x h => b.th x (a.th x h)
  nf := fun x h => by
    rcases b.nf x h with q | q | q
    · exact a.nf x q
    · refine .inr (.inl ?_)
      cases e : H x with
      | none => rfl
      | some o => exact absurd q (a.th x (by rw [e]; simp))
    · rcases a.no x q with r | r
      · exact .inr (.inr r)
      · exact .inr (.inl r)
  nk := fun x h => by
    rcases b.nk x h with q | q | q | q | q
    · exact a.nk x q
    · refine .inr (.inl ?_)
      cases e : H x with
      | none => rfl
      | some o => exact absurd q (a.th x (by rw [e]; simp))
    · rcases a.no x q with r | r
      · exact .inr (.inr (.inl r))
      · exact .inr (.inl r)
    · rcases a.nf x q with r | r | r
      · exact .inr (.inr (.inr (.inl r)))
      · exact .inr (.inl r)
      · exact .inr (.inr (.inl r))
    · by_cases h0 : H x = none
      · exact .inr (.inl h0)
      · by_cases h1 : x ∈ os
        · exact .inr (.inr (.inl h1))
        · by_cases h2 : x ∈ g.fp
          · exact .inr (.inr (.inr (.inl h2)))
          · exact .inr (.inr (.inr (.inr (by rw [← a.fr x h0 h2 h1]; exact q))))
  no := fun x h => by
    rcases b.no x h with q | q
    · exact a.no x q
    · refine .inr ?_
      cases e : H x with
      | none => rfl
      | some o => exact absurd q (a.th x (by rw [e]; simp))
/-- a step that no slot is changed by, in a frame -/
theorem Step.frame {g g' : G} {H H' : Hp} (os : List Addr) (a : Step g H [] g' H' []) : Step g H os g' H' os :=
  ⟨a.ext, fun x h hf _ => a.fr x h hf (by simp), a.th, fun x h => (a.nf x h).imp_right (fun q => q.elim Or.inl (fun z => nomatch z)), fun x h => (a.nk x h).imp_right (fun q => q.elim Or.inl (fun z => z.elim (fun z => nomatch z) fun z => .inr (.inr z))), fun _ h => .inl h⟩
theorem OsOk.step {g g' : G} {H H' : Hp} {os : List Addr} (o : OsOk g H os) (a : Step g H [] g' H' []) : OsOk g' H' os where
  nd := o.nd
  th := fun x h => by rw [a.fr x (o.th x h).ne (o.fp x h) (by simp)]; exact o.th x h
  kp := fun x h => by
    cases e : g'.kp x with
    | none => rfl
    | some u =>
      rcases a.nk x (by rw [e]; simp) with q | q | q | q | q
      · exact absurd (o.kp x h) q
      · exact absurd q (o.th x h).ne
      · exact nomatch q
      · exact absurd q (o.fp x h)
      · exact absurd q (o.th x h).nt
  fp := fun x h z => by
    rcases a.nf x z with q | q | q
    · exact o.fp x h q
    · exact (o.th x h).ne q
    · exact nomatch q
theorem SlotOk.step {g g' : G} {H H' : Hp} {s : Slot} {o : Option V} {l : List Addr} (h : SlotOk K mg g H s o l) (e : Ext g g') (k : ∀ a ∈ l, H' a = H a) : SlotOk K mg g' H' s o l := by
  cases h with
  | un => exact .un o
  | vl r => exact .vl (r.ext e)
  | ol h r => exact .ol ((k _ List.mem_cons_self).trans h) (r.ext e)
  | od h r q nd => exact .od ((k _ List.mem_cons_self).trans h) (r.ext e) q nd
theorem EnvOk.step {g g' : G} {H H' : Hp} (e : Ext g g') : ∀ {env : En} {σ : L2.St} {os : List Addr}, EnvOk K mg g H env σ os → (∀ a ∈ os, H' a = H a) → EnvOk K mg g' H' env σ os
  | _, _, _, .nil, _ => .nil
  | _, _, _, .cons h t, k => .cons (h.step e fun a ha => k a (List.mem_append_left _ ha)) (EnvOk.step e t fun a ha => k a (List.mem_append_right _ ha))
theorem EnvOk.step' {g g' : G} {H H' : Hp} {env : En} {σ : L2.St} {os : List Addr} (h : EnvOk K mg g H env σ os) (o : OsOk g H os) (a : Step g H [] g' H' []) : EnvOk K mg g' H' env σ os :=
  h.step a.ext fun x hx => a.fr x (o.th x hx).ne (o.fp x hx) (by simp)
theorem ObOk.step {g g' : G} {H H' : Hp} {ob : SObj} {p : Addr × List Addr} (h : ObOk K mg g H ob p) (e : Ext g g') (k : ∀ a ∈ p.2, H' a = H a) : ObOk K mg g' H' ob p := by
  cases h with
  | cell h => exact .cell (h.step e fun a ha => k a (by simpa using ha))
  | ins m h hd ne r => exact .ins m ((k _ List.mem_cons_self).trans h) ((k _ (by simp)).trans hd) ne (r.ext e)
  | gone => exact .gone
theorem fpOf_cons (p : Addr × List Addr) (m : List (Addr × List Addr)) : fpOf (p :: m) = p.2 ++ fpOf m := by
  simp [fpOf]
theorem StOk.step {g g' : G} {H H' : Hp} (e : Ext g g') : ∀ {st : Store} {m : List (Addr × List Addr)}, StOk K mg g H st m → (∀ a ∈ fpOf m, H' a = H a) → StOk K mg g' H' st m
  | _, _, .nil, _ => .nil
  | _, _, .cons h t, k => .cons (h.step e fun a ha => k a (by rw [fpOf_cons]; exact List.mem_append_left _ ha)) (StOk.step e t fun a ha => k a (by rw [fpOf_cons]; exact List.mem_append_right _ ha))
theorem StOk.length {g : G} {H : Hp} : ∀ {st : Store} {m : List (Addr × List Addr)}, StOk K mg g H st m → st.length = m.length
  | _, _, .nil => rfl
  | _, _, .cons _ t => by simp [StOk.length t]
theorem StOk.get {g : G} {H : Hp} : ∀ {st : Store} {m : List (Addr × List Addr)} {n : Nat} {o : SObj}, StOk K mg g H st m → st[n]? = some o → ∃ p, m[n]? = some p ∧ ObOk K mg g H o p
  | _, _, _, _, .nil, e => by simp at e
  | _, _, 0, _, .cons r _, e => by simp at e; subst e; exact ⟨_, rfl, r⟩
  | _, _, i + 1, d, .cons _ t, e => by
    obtain ⟨u, h1, h2⟩ := StOk.get (n := i) (o := d) t (by simpa using e)
    exact ⟨u, by simpa using h1, h2⟩
/-! ### new frozen things -/
def G.freeze (g : G) (p : Addr) (o : HO) : G := ⟨upd g.kp p o, g.m⟩
theorem ext_freeze {g : G} {p : Addr} {o : HO} (hp : g.kp p = none) : Ext g (g.freeze p o) :=
  ⟨fun a u h => by show upd g.kp p o a = _; rw [upd_ne (ne_of_none h hp)]; exact h, fun _ _ h => h⟩
theorem SOk.kpn {g : G} {st : Store} {H : Hp} (S : SOk K mg g st H) {p : Addr} (hp : H p = none) : g.kp p = none := by
  cases e : g.kp p with
  | none => rfl
  | some o => rw [S.kp p o e] at hp; cases hp
theorem SOk.fpn {g : G} {st : Store} {H : Hp} (S : SOk K mg g st H) {p : Addr} (hp : H p = none) : p ∉ g.fp := fun z => S.th p z hp
/-- a thing is made that never changes -/
theorem SOk.newF {g : G} {st : Store} {H : Hp} (S : SOk K mg g st H) {p : Addr} {o : HO} (hp : H p = none) : SOk K mg (g.freeze p o) st (upd H p o) ∧ Step g H [] (g.freeze p o) (upd H p o) [] := by
  have hk := S.kpn hp
  have hf := S.fpn hp
  refine ⟨⟨fun a u h => ?_, S.nd, fun a ha => ?_, fun a ha => ?_, ?_⟩, ⟨ext_freeze hk, fun a h _ _ => ?_, fun a h => ?_, fun a h => .inl h, fun a h => ?_, fun _ h => nomatch h⟩⟩
  · by_cases e : a = p
    · subst e
      rw [upd_same]
      have h' : upd g.kp a o a = some u := h
      rw [upd_same] at h'
      exact h'
    · rw [upd_ne e]
      have h' : upd g.kp p o a = some u := h
      rw [upd_ne e] at h'
      exact S.kp a u h'
  · show upd g.kp p o a = none
    rw [upd_ne (by rintro rfl; exact hf ha)]
    exact S.fr a ha
  · rw [upd_ne (by rintro rfl; exact hf ha)]
    exact S.th a ha
  · exact S.ob.step (ext_freeze hk) fun a ha => upd_ne (by rintro rfl; exact hf ha)
  · exact upd_ne (by rintro rfl; exact h hp)
  · rw [upd_ne (by rintro rfl; exact h hp)]
    exact h
  · by_cases e : a = p
    · exact .inr (.inl (e ▸ hp))
    · have h' : upd g.kp p o a ≠ none := h
      rw [upd_ne e] at h'
      exact .inl h'
theorem rep_tupF {g : G} {p : Addr} {vs : List V} {ds : List D} (hk : g.kp p = none) (r : RepL K mg g ds vs) : Rep K mg (g.freeze p (.tup vs)) (.tup ds) (.ref p) :=
  .tup (.inl upd_same) (r.ext (ext_freeze hk))
theorem rep_lstF {g : G} {p : Addr} {vs : List V} {ds : List D} (hk : g.kp p = none) (r : RepL K mg g ds vs) : Rep K mg (g.freeze p (.lst vs)) (.lst ds) (.ref p) :=
  .lst upd_same (r.ext (ext_freeze hk))
end
end EV
set_option Elab.async false
set_option linter.all false
set_option autoImplicit false
set_option maxRecDepth 100000
set_option maxHeartbeats 400000
/-! judgements over data: expressions, arguments, tests -/
namespace EV
open PySem PySem.Spec PyProof.Rows L2
/-- what is wanted of an error -/
abbrev Wi := Er → Store → G → Hp → L2.St → Prop
abbrev W0 : Wi := fun _ _ _ _ _ => False
section
variable {α β γ δ : Type} (K : PySem.W.Frag) (mg : Str → Option Value)
def Post (R : G → α → β → Prop) (W : Wi) (g : G) (H : Hp) (σ : L2.St) (r : Res α) (Q : β → Hp → Prop) : Prop :=
  match r with
  | .ok a st' => ∀ v g' H', Step g H [] g' H' [] → R g' a v → SOk K mg g' st' H' → Q v H'
  | .er e st' => ∀ g' H', Step g H [] g' H' [] → SOk K mg g' st' H' → W e st' g' H' σ
  | .stuck => False
/-- a fresh thing: it may be owned -/
def PostS (W : Wi) (g : G) (H : Hp) (σ : L2.St) (r : Res Slot) (Q : V → Hp → Prop) : Prop :=
  match r with
  | .ok a st' => ∀ v g' H' l, Step g H [] g' H' l → OsOk g' H' l → SlotOk K mg g' H' a (some v) l → SOk K mg g' st' H' → Q v H'
  | .er e st' => ∀ g' H', Step g H [] g' H' [] → SOk K mg g' st' H' → W e st' g' H' σ
  | .stuck => False
end
section
variable {α β γ δ : Type} {K : PySem.W.Frag} {mg : Str → Option Value} {R : G → α → β → Prop} {R2 : G → γ → δ → Prop} {W : Wi} {g g' : G} {H H' : Hp} {σ : L2.St}
theorem Post.step {r : Res α} {Q : β → Hp → Prop} (h : Post K mg R W g H σ r Q) (s : Step g H [] g' H' []) : Post K mg R W g' H' σ r Q := by
  cases r with
  | ok a st => exact fun v g2 H2 s2 r S => h v g2 H2 (s.trans s2) r S
  | er e st => exact fun g2 H2 s2 S => h g2 H2 (s.trans s2) S
  | stuck => exact h
theorem PostS.step {r : Res Slot} {Q : V → Hp → Prop} (h : PostS K mg W g H σ r Q) (s : Step g H [] g' H' []) : PostS K mg W g' H' σ r Q := by
  cases r with
  | ok a st => exact fun v g2 H2 l s2 o r S => h v g2 H2 l (s.trans s2) o r S
  | er e st => exact fun g2 H2 s2 S => h g2 H2 (s.trans s2) S
  | stuck => exact h
theorem Post.imp {r : Res α} {Q Q' : β → Hp → Prop} (h : Post K mg R W g H σ r Q) (hq : ∀ v H', Q v H' → Q' v H') : Post K mg R W g H σ r Q' := by
  cases r with
  | ok a st => exact fun v g2 H2 s2 r S => hq _ _ (h v g2 H2 s2 r S)
  | er e st => exact h
  | stuck => exact h
/-- what holds between two parts -/
def Mid (K : PySem.W.Frag) (mg : Str → Option Value) (R : G → α → β → Prop) (g : G) (H : Hp) (N : G → Hp → α → Store → Prop) (v : β) (H1 : Hp) : Prop :=
  ∃ g1 a st1, Step g H [] g1 H1 [] ∧ R g1 a v ∧ SOk K mg g1 st1 H1 ∧ N g1 H1 a st1
theorem Post.bind {r : Res α} {k : α → Store → Res γ} {Q : δ → Hp → Prop} (h : Post K mg R2 W g H σ (r.bind k) Q) :
    Post K mg R W g H σ r (Mid K mg R g H fun g1 H1 a st1 => Post K mg R2 W g1 H1 σ (k a st1) Q) := by
  cases r with
  | ok a st => exact fun v g2 H2 s2 r S => ⟨g2, a, st, s2, r, S, Post.step h s2⟩
  | er e st => exact h
  | stuck => exact h
theorem Post.bindS {r : Res α} {k : α → Store → Res Slot} {Q : V → Hp → Prop} (h : PostS K mg W g H σ (r.bind k) Q) :
    Post K mg R W g H σ r (Mid K mg R g H fun g1 H1 a st1 => PostS K mg W g1 H1 σ (k a st1) Q) := by
  cases r with
  | ok a st => exact fun v g2 H2 s2 r S => ⟨g2, a, st, s2, r, S, PostS.step h s2⟩
  | er e st => exact h
  | stuck => exact h
/-- no step -/
theorem Post.here {a : α} {v : β} {st : Store} {Q : β → Hp → Prop} (h : Post K mg R W g H σ (.ok a st) Q) (r : R g a v) (S : SOk K mg g st H) : Q v H := h v g H Step.refl r S
end
def RB : G → Bool → Bool → Prop := fun _ a b => a = b
section
variable (K : PySem.W.Frag) (mg : Str → Option Value) (W : Wi)
/-- a frame's state stands for an environment and a store -/
def At (P : G → En → Store → List Addr → Prop) (σ : L2.St) (H : Hp) : Prop :=
  ∃ g env st os, EnvOk K mg g H env σ os ∧ OsOk g H os ∧ SOk K mg g st H ∧ P g env st os
def tE (f : En → Store → Res D) : TE := fun σ H Q => At K mg (fun g env st _ => Post K mg (Rep K mg) W g H σ (f env st) Q) σ H
def tSl (f : En → Store → Res Slot) : TE := fun σ H Q => At K mg (fun g env st _ => PostS K mg W g H σ (f env st) Q) σ H
def tA (f : En → Store → Res (List D)) : TA := fun σ H Q => At K mg (fun g env st _ => Post K mg (RepL K mg) W g H σ (f env st) Q) σ H
def tT (f : En → Store → Res Bool) : TT := fun σ H Q => At K mg (fun g env st _ => Post K mg RB W g H σ (f env st) Q) σ H
end
abbrev EE (X : Cx) (W : Wi) (e : Expr) (f : En → Store → Res D) : Prop := PE X e (tE X.K X.mg W f)
abbrev SE (X : Cx) (W : Wi) (e : Expr) (f : En → Store → Res Slot) : Prop := PE X e (tSl X.K X.mg W f)
abbrev AE (X : Cx) (W : Wi) (es : List Expr) (f : En → Store → Res (List D)) : Prop := PA X es (tA X.K X.mg W f)
abbrev BE (X : Cx) (W : Wi) (e : Expr) (f : En → Store → Res Bool) : Prop := PT X e (tT X.K X.mg W f)
abbrev BW (X : Cx) (W : Wi) (e : Expr) (f : En → Store → Res Bool) : Prop := PW X e (tT X.K X.mg W f)
/-! ### operations by values -/
/-- f does as F, on two values -/
def Op2 (X : Cx) (f : Value → Value → Sem Value) (F : D → D → Store → Res D) : Prop :=
  ∀ (W : Wi) (pins : List (Addr × Obj)) (s : Shared) (σ : L2.St) (H : Hp) (g : G) (st : Store) (x y : D) (vx vy : V) (u w : Value) (Q : VK),
    Inv X pins σ H s → SOk X.K X.mg g st H → Rep X.K X.mg g x vx → Rep X.K X.mg g y vy → RelV vx u → RelV vy w → Post X.K X.mg (Rep X.K X.mg) W g H σ (F x y st) Q →
    wpAny (model X.prog X.w) X.A (f u w) (EP X pins σ Q) X.xe s
def Op1 (X : Cx) (f : Value → Sem Value) (F : D → Store → Res D) : Prop :=
  ∀ (W : Wi) (pins : List (Addr × Obj)) (s : Shared) (σ : L2.St) (H : Hp) (g : G) (st : Store) (x : D) (vx : V) (u : Value) (Q : VK),
    Inv X pins σ H s → SOk X.K X.mg g st H → Rep X.K X.mg g x vx → RelV vx u → Post X.K X.mg (Rep X.K X.mg) W g H σ (F x st) Q →
    wpAny (model X.prog X.w) X.A (f u) (EP X pins σ Q) X.xe s
/-- a call of a value with values -/
def OpL (X : Cx) (f : Value) (F : List D → Store → Res D) : Prop :=
  ∀ (W : Wi) (pins : List (Addr × Obj)) (s : Shared) (σ : L2.St) (H : Hp) (g : G) (st : Store) (xs : List D) (vs : List V) (us : List Value) (Q : VK),
    Inv X pins σ H s → SOk X.K X.mg g st H → RepL X.K X.mg g xs vs → Vals vs us → Post X.K X.mg (Rep X.K X.mg) W g H σ (F xs st) Q →
    wpAny (model X.prog X.w) X.A (call f us) (EP X pins σ Q) X.xe s
def OpLS (X : Cx) (f : Value) (F : List D → Store → Res Slot) : Prop :=
  ∀ (W : Wi) (pins : List (Addr × Obj)) (s : Shared) (σ : L2.St) (H : Hp) (g : G) (st : Store) (xs : List D) (vs : List V) (us : List Value) (Q : VK),
    Inv X pins σ H s → SOk X.K X.mg g st H → RepL X.K X.mg g xs vs → Vals vs us → PostS X.K X.mg W g H σ (F xs st) Q →
    wpAny (model X.prog X.w) X.A (call f us) (EP X pins σ Q) X.xe s
/-- from a rule of the hand layer -/
theorem Op2.of {X : Cx} {f : Value → Value → Sem Value} {r : R2} {F : D → D → Store → Res D} (ho : OpR X f r)
    (h : ∀ (W : Wi) (σ : L2.St) (H : Hp) (g : G) (st : Store) (x y : D) (vx vy : V) (Q : VK), SOk X.K X.mg g st H → Rep X.K X.mg g x vx → Rep X.K X.mg g y vy → Post X.K X.mg (Rep X.K X.mg) W g H σ (F x y st) Q → r vx vy H Q) : Op2 X f F :=
  fun W pins s σ H g st x y vx vy u w Q I S rx ry ru rw q => ho pins s σ H vx vy u w Q I ru rw (h W σ H g st x y vx vy Q S rx ry q)
theorem OpL.of {X : Cx} {f : Value} {r : List V → Hp → VK → Prop} {F : List D → Store → Res D} (ho : CallR X f r)
    (h : ∀ (W : Wi) (σ : L2.St) (H : Hp) (g : G) (st : Store) (xs : List D) (vs : List V) (Q : VK), SOk X.K X.mg g st H → RepL X.K X.mg g xs vs → Post X.K X.mg (Rep X.K X.mg) W g H σ (F xs st) Q → r vs H Q) : OpL X f F :=
  fun W pins s σ H g st xs vs us Q I S r ru q => ho pins s σ H vs us Q I ru (h W σ H g st xs vs Q S r q)
section
variable {X : Cx} {W : Wi} {a b e : Expr} {es : List Expr} {fa fb : En → Store → Res D} {pos : Pos}
/-! ### names and constants -/
def vName (i : Nat) : En → Store → Res D := fun env st => match env[i]? with
  | some (.vl d) => .ok d st
  | _ => .stuck
theorem EnvOk.get {K : PySem.W.Frag} {mg : Str → Option Value} {g : G} {H : Hp} : ∀ {env : En} {σ : L2.St} {os : List Addr} {i : Nat} {s : Slot}, EnvOk K mg g H env σ os → env[i]? = some s → ∃ o l, σ[i]? = some o ∧ SlotOk K mg g H s o l ∧ (∀ x ∈ l, x ∈ os)
  | _, _, _, _, _, .nil, e => by simp at e
  | _, _, _, 0, _, .cons h t, e => by
    simp at e; subst e
    exact ⟨_, _, rfl, h, fun x hx => List.mem_append_left _ hx⟩
  | _, _, _, i + 1, s, .cons h t, e => by
    obtain ⟨o, l, h1, h2, h3⟩ := EnvOk.get (i := i) (s := s) t (by simpa using e)
    exact ⟨o, l, by simpa using h1, h2, fun x hx => List.mem_append_right _ (h3 x hx)⟩
theorem e_name (i : Nat) {x : Str} (hN : X.N[i]? = some x) (hv : Vis X.env.scope x) (hd : (x == ("__debug__" : Str)) = false := by decide) (hcd : (x == ("__classdict__" : Str)) = false := by decide) : EE X W (.Name x pos) (vName i) := by
  refine ⟨fun pins s σ H Q I h => ?_⟩
  obtain ⟨g, env, st, os, he, ho, hs, h⟩ := h
  refine (pe_var hN hv hd hcd).run pins s σ H Q I ?_
  unfold vName at h
  split at h
  · next d hd =>
    obtain ⟨o, l, h1, h2, _⟩ := he.get hd
    cases h2 with
    | vl r => exact ⟨_, h1, h.here r hs⟩
  · exact h.elim
def vC (d : D) : En → Store → Res D := fun _ st => .ok d st
theorem e_c {d : D} {v : V} (h : PE X e (L2.tC v)) (r : ∀ g, Rep X.K X.mg g d v) : EE X W e (vC d) := by
  refine ⟨fun pins s σ H Q I h' => ?_⟩
  obtain ⟨g, env, st, os, he, ho, hs, h'⟩ := h'
  exact h.run pins s σ H Q I (h'.here (r g) hs)
theorem e_int {i : Int} {j : Nat} : EE X W (.Constant (.int i) j pos) (vC (.int i)) := e_c pe_int fun _ => .int i
theorem e_bl {c : Bool} {j : Nat} : EE X W (.Constant (.bool c) j pos) (vC (.bl c)) := e_c pe_bl fun _ => .bl c
theorem e_non {j : Nat} : EE X W (.Constant .none j pos) (vC .non) := e_c pe_non fun _ => .non
theorem e_str {x : Str} {j : Nat} : EE X W (.Constant (.str x) j pos) (vC (.str x)) := e_c pe_str fun _ => .str x
/-- a module's constant -/
theorem e_glob {x : Str} {d : D} {v : V} {u : Value} (hg : Gl X x) (hm : X.mg x = some u) (r : RelV v u) (q : ∀ g, Rep X.K X.mg g d v) (hd : (x == ("__debug__" : Str)) = false := by decide) : EE X W (.Name x pos) (vC d) := e_c (pe_glob hg hm r hd) q
theorem e_bltn {x : Str} {d : D} {v : V} {u : Value} (hg : Gl X x) (hm : X.mg x = none) (hv : bootBuiltins x = some u) (r : RelV v u) (q : ∀ g, Rep X.K X.mg g d v) (hn : x ≠ "__name__" := by decide) (hd : (x == ("__debug__" : Str)) = false := by decide) : EE X W (.Name x pos) (vC d) := e_c (pe_bltn hg hm hv r hn hd) q
/-! ### two parts in a row -/
def v2 {α : Type} (F : D → D → Store → Res α) (fa fb : En → Store → Res D) : En → Store → Res α := fun env st => (fa env st).bind fun x st => (fb env st).bind fun y st => F x y st
theorem two {F : D → D → Store → Res D} (ha : EE X W a fa) (hb : EE X W b fb) {pins : List (Addr × Obj)} {s : Shared} {σ : L2.St} {H : Hp} {Q : VK} (I : Inv X pins σ H s) (h : tE X.K X.mg W (v2 F fa fb) σ H Q)
    {α : Type} {Q' : α → Shared → Prop} {f : Value → Value → Sem α}
    (hf : ∀ g st x y v u s2 vx vy H2, Inv X pins σ H2 s2 → SOk X.K X.mg g st H2 → Rep X.K X.mg g x vx → Rep X.K X.mg g y vy → RelV vx v → RelV vy u → Post X.K X.mg (Rep X.K X.mg) W g H2 σ (F x y st) Q → wpAny (model X.prog X.w) X.A (f v u) Q' X.xe s2) :
    wpAny (model X.prog X.w) X.A (eval a X.env) (fun v s₁ => wpAny (model X.prog X.w) X.A (eval b X.env) (fun u s₂ => wpAny (model X.prog X.w) X.A (f v u) Q' X.xe s₂) X.xe s₁) X.xe s := by
  obtain ⟨g, env, st, os, he, ho, hs, h⟩ := h
  refine thn (ha.run pins s σ H _ I ⟨g, env, st, os, he, ho, hs, Post.bind h⟩) fun v s1 ⟨vx, H1, I1, r1, q1⟩ => ?_
  obtain ⟨g1, x, st1, s1', rx, S1, h1⟩ := q1
  refine thn (hb.run pins s1 σ H1 _ I1 ⟨g1, env, st1, os, he.step' ho s1', ho.step s1', S1, Post.bind h1⟩) fun u s2 ⟨vy, H2, I2, r2, q2⟩ => ?_
  obtain ⟨g2, y, st2, s2', ry, S2, h2⟩ := q2
  exact hf g2 st2 x y v u s2 vx vy H2 I2 S2 (rx.ext s2'.ext) ry r1 r2 h2
theorem e_bin {op : Operator} {F : D → D → Store → Res D} (hop : Op2 X (binaryOp op) F) (ha : EE X W a fa) (hb : EE X W b fb) : EE X W (.BinOp a op b pos) (v2 F fa fb) :=
  ⟨fun pins s σ H Q I h => wpAny_BinOp (two ha hb I h fun g st x y v u s2 vx vy H2 I2 S2 rx ry r1 r2 q => hop W pins s2 σ H2 g st x y vx vy v u Q I2 S2 rx ry r1 r2 q)⟩
/-- a comparison as a value -/
theorem e_cmp {op : CmpOp} {F : D → D → Store → Res D} (hop : Op2 X (compareOp op) F) (ha : EE X W a fa) (hb : EE X W b fb) (hm : behindInMarks op b = false) : EE X W (.Compare a [op] [b] pos) (v2 F fa fb) :=
  ⟨fun pins s σ H Q I h => wpAny_Compare1 (two ha hb I h fun g st x y v u s2 vx vy H2 I2 S2 rx ry r1 r2 q => hop W pins s2 σ H2 g st x y vx vy v u Q I2 S2 rx ry r1 r2 q) hm⟩
/-- a value that is a truth -/
def toB (r : Res D) : Res Bool := r.bind fun d st => match d with
  | .bl c => .ok c st
  | _ => .stuck
def vB (f : En → Store → Res D) : En → Store → Res Bool := fun env st => toB (f env st)
theorem Post.toB {K : PySem.W.Frag} {mg : Str → Option Value} {g : G} {H : Hp} {σ : L2.St} {r : Res D} {Q : Bool → Hp → Prop} (h : Post K mg RB W g H σ (toB r) Q) :
    Post K mg (Rep K mg) W g H σ r (fun v H' => ∃ c, v = .bl c ∧ Q c H') := by
  cases r with
  | ok d st =>
    cases d with
    | bl c => exact fun v g2 H2 s2 r S => by cases r; exact ⟨c, rfl, h c g2 H2 s2 rfl S⟩
    | _ => exact h.elim
  | er e st => exact h
  | stuck => exact h
theorem t_cmp {op : CmpOp} {F : D → D → Store → Res D} (hop : Op2 X (compareOp op) F) (ha : EE X W a fa) (hb : EE X W b fb) (hm : behindInMarks op b = false) : BE X W (.Compare a [op] [b] pos) (vB (v2 F fa fb)) := by
  refine ⟨fun pins s σ H Q I h => ?_⟩
  obtain ⟨g, env, st, os, he, ho, hs, h⟩ := h
  refine wpAny_isTrue_Compare1 (thn (two ha hb I (Q := fun v H' => ∃ c, v = .bl c ∧ Q c H') ⟨g, env, st, os, he, ho, hs, Post.toB h⟩ fun g st x y v u s2 vx vy H2 I2 S2 rx ry r1 r2 q => hop W pins s2 σ H2 g st x y vx vy v u _ I2 S2 rx ry r1 r2 q) fun v s1 h1 => thn h1 fun u s2 h2 => thn h2 fun c s3 ⟨x, H1, I1, r1, q1⟩ => ?_) hm
  obtain ⟨d, rfl, q⟩ := q1
  cases r1
  exact wpAny_truthy_bool ⟨H1, I1, q⟩
/-- an expression whose value is a bool, as a test -/
theorem t_val (h : EE X W e fa) (he : ∀ whole, isTrue e X.env whole = (do let v ← whole; standAt e.pos; holding [v] (truthy v)) := by intro _; rfl) : BE X W e (vB fa) := by
  refine ⟨fun pins s σ H Q I hw => ?_⟩
  obtain ⟨g, env, st, os, he', ho, hs, hw⟩ := hw
  exact (pt_val h he).run pins s σ H Q I ⟨g, env, st, os, he', ho, hs, Post.toB hw⟩
/-! ### and, or, not -/
variable {tf tg : En → Store → Res Bool} {rest : List Expr}
def vAnd (f g : En → Store → Res Bool) : En → Store → Res Bool := fun env st => (f env st).bind fun c st => if c = true then g env st else .ok false st
def vOr (f g : En → Store → Res Bool) : En → Store → Res Bool := fun env st => (f env st).bind fun c st => if c = true then .ok true st else g env st
def vNot (f : En → Store → Res Bool) : En → Store → Res Bool := fun env st => (f env st).bind fun c st => .ok (!c) st
theorem bw_and1 (ha : BE X W a tf) : BW X W (.BoolOp .And [a] pos) tf := pw_and1 ha
theorem bw_or1 (ha : BE X W a tf) : BW X W (.BoolOp .Or [a] pos) tf := pw_or1 ha
theorem bw_and (ha : BE X W a tf) (hb : BW X W (.BoolOp .And (b :: rest) pos) tg) : BW X W (.BoolOp .And (a :: b :: rest) pos) (vAnd tf tg) := by
  refine ⟨fun wh pins s σ H Q I h => ?_⟩
  obtain ⟨g, env, st, os, he, ho, hs, h⟩ := h
  refine (pw_and ha hb).run wh pins s σ H Q I ⟨g, env, st, os, he, ho, hs, (Post.bind h).imp fun c H1 q => ?_⟩
  obtain ⟨g1, c', st1, s1, e, S1, h1⟩ := q
  cases e
  cases c with
  | true => exact iteT ⟨g1, env, st1, os, he.step' ho s1, ho.step s1, S1, h1⟩
  | false => exact iteF (h1.here rfl S1)
theorem bw_or (ha : BE X W a tf) (hb : BW X W (.BoolOp .Or (b :: rest) pos) tg) : BW X W (.BoolOp .Or (a :: b :: rest) pos) (vOr tf tg) := by
  refine ⟨fun wh pins s σ H Q I h => ?_⟩
  obtain ⟨g, env, st, os, he, ho, hs, h⟩ := h
  refine (pw_or ha hb).run wh pins s σ H Q I ⟨g, env, st, os, he, ho, hs, (Post.bind h).imp fun c H1 q => ?_⟩
  obtain ⟨g1, c', st1, s1, e, S1, h1⟩ := q
  cases e
  cases c with
  | false => exact iteF ⟨g1, env, st1, os, he.step' ho s1, ho.step s1, S1, h1⟩
  | true => exact iteT (h1.here rfl S1)
theorem b_not (ha : BE X W a tf) : BE X W (.UnaryOp .Not a pos) (vNot tf) := by
  refine ⟨fun pins s σ H Q I h => ?_⟩
  obtain ⟨g, env, st, os, he, ho, hs, h⟩ := h
  refine (pt_not ha).run pins s σ H Q I ⟨g, env, st, os, he, ho, hs, (Post.bind h).imp fun c H1 q => ?_⟩
  obtain ⟨g1, c', st1, s1, e, S1, h1⟩ := q
  cases e
  exact h1.here rfl S1
/-- as values -/
def vAndV (f g : En → Store → Res D) : En → Store → Res D := fun env st => (f env st).bind fun c st => match c with
  | .bl true => g env st
  | .bl false => .ok (.bl false) st
  | _ => .stuck
def vOrV (f g : En → Store → Res D) : En → Store → Res D := fun env st => (f env st).bind fun c st => match c with
  | .bl true => .ok (.bl true) st
  | .bl false => g env st
  | _ => .stuck
def vNotV (f : En → Store → Res D) : En → Store → Res D := fun env st => (f env st).bind fun c st => match c with
  | .bl c => .ok (.bl (!c)) st
  | _ => .stuck
theorem e_one {op : BoolOp} (h : EE X W a fa) : EE X W (.BoolOp op [a] pos) fa := pe_one h
theorem e_and (ha : EE X W a fa) (hb : EE X W (.BoolOp .And (b :: rest) pos) fb) : EE X W (.BoolOp .And (a :: b :: rest) pos) (vAndV fa fb) := by
  refine ⟨fun pins s σ H Q I h => ?_⟩
  obtain ⟨g, env, st, os, he, ho, hs, h⟩ := h
  refine (pe_and ha hb).run pins s σ H Q I ⟨g, env, st, os, he, ho, hs, (Post.bind h).imp fun c H1 q => ?_⟩
  obtain ⟨g1, c', st1, s1, r, S1, h1⟩ := q
  cases r with
  | bl c =>
    refine ⟨c, rfl, ?_⟩
    cases c with
    | true => exact iteT ⟨g1, env, st1, os, he.step' ho s1, ho.step s1, S1, h1⟩
    | false => exact iteF (h1.here (.bl _) S1)
  | _ => exact h1.elim
theorem e_not (ha : EE X W a fa) : EE X W (.UnaryOp .Not a pos) (vNotV fa) := by
  refine ⟨fun pins s σ H Q I h => ?_⟩
  obtain ⟨g, env, st, os, he, ho, hs, h⟩ := h
  refine (pe_not ha).run pins s σ H Q I ⟨g, env, st, os, he, ho, hs, (Post.bind h).imp fun c H1 q => ?_⟩
  obtain ⟨g1, c', st1, s1, r, S1, h1⟩ := q
  cases r with
  | bl c => exact ⟨c, rfl, h1.here (.bl _) S1⟩
  | _ => exact h1.elim
/-- a if t else b -/
def vIf {α : Type} (t : En → Store → Res Bool) (f g : En → Store → Res α) : En → Store → Res α := fun env st => (t env st).bind fun c st => if c = true then f env st else g env st
theorem e_ifExp {c : Expr} (hc : BE X W c tf) (ha : EE X W a fa) (hb : EE X W b fb) : EE X W (.IfExp c a b pos) (vIf tf fa fb) := by
  refine ⟨fun pins s σ H Q I h => ?_⟩
  obtain ⟨g, env, st, os, he, ho, hs, h⟩ := h
  refine (pe_ifExp hc ha hb).run pins s σ H Q I ⟨g, env, st, os, he, ho, hs, (Post.bind h).imp fun c H1 q => ?_⟩
  obtain ⟨g1, c', st1, s1, e, S1, h1⟩ := q
  cases e
  cases c with
  | true => exact iteT ⟨g1, env, st1, os, he.step' ho s1, ho.step s1, S1, h1⟩
  | false => exact iteF ⟨g1, env, st1, os, he.step' ho s1, ho.step s1, S1, h1⟩
/-- a one-place operator -/
def v1 {α : Type} (F : D → Store → Res α) (f : En → Store → Res D) : En → Store → Res α := fun env st => (f env st).bind F
theorem e_un {op : UnaryOp} {F : D → Store → Res D} (hop : Op1 X (unaryOp op) F) (ha : EE X W a fa) : EE X W (.UnaryOp op a pos) (v1 F fa) := by
  refine ⟨fun pins s σ H Q I h => ?_⟩
  obtain ⟨g, env, st, os, he, ho, hs, h⟩ := h
  refine UnaryOp_ (thn (ha.run pins s σ H _ I ⟨g, env, st, os, he, ho, hs, Post.bind h⟩) fun v s1 ⟨vx, H1, I1, r1, q1⟩ => ?_)
  obtain ⟨g1, x, st1, s1', rx, S1, h1⟩ := q1
  exact hop W pins s1 σ H1 g1 st1 x vx v Q I1 S1 rx r1 h1
/-! ### argument lists, displays -/
def vNil : En → Store → Res (List D) := fun _ st => .ok [] st
def vCons (f : En → Store → Res D) (r : En → Store → Res (List D)) : En → Store → Res (List D) := fun env st => (f env st).bind fun x st => (r env st).bind fun xs st => .ok (x :: xs) st
theorem a_nil : AE X W [] vNil := by
  refine ⟨fun pos pins s σ H Q I h => ?_⟩
  obtain ⟨g, env, st, os, he, ho, hs, h⟩ := h
  exact pa_nil.run pos pins s σ H Q I (h.here .nil hs)
theorem a_cons {fr : En → Store → Res (List D)} (ha : EE X W e fa) (hr : AE X W es fr) (hs : starEach (e :: es) X.env = (false, eval e X.env) :: starEach es X.env := by rfl) : AE X W (e :: es) (vCons fa fr) := by
  refine ⟨fun pos pins s σ H Q I h => ?_⟩
  obtain ⟨g, env, st, os, he, ho, hS, h⟩ := h
  refine (pa_cons ha hr hs).run pos pins s σ H Q I ⟨g, env, st, os, he, ho, hS, (Post.bind h).imp fun v H1 q => ?_⟩
  obtain ⟨g1, x, st1, s1, rx, S1, h1⟩ := q
  refine ⟨g1, env, st1, os, he.step' ho s1, ho.step s1, S1, (Post.bind h1).imp fun vs H2 q2 => ?_⟩
  obtain ⟨g2, xs, st2, s2, rxs, S2, h2⟩ := q2
  exact h2.here (.cons (rx.ext s2.ext) rxs) S2
/-- a tuple -/
def mkTup : List D → Store → Res D := fun xs st => if xs.length ≤ sizeLine then .ok (.tup xs) st else .stuck
def mkLst : List D → Store → Res Slot := fun xs st => if xs.length ≤ sizeLine then .ok (.ol xs) st else .stuck
def vA {α : Type} (F : List D → Store → Res α) (f : En → Store → Res (List D)) : En → Store → Res α := fun env st => (f env st).bind F
/-- behind a new tuple -/
theorem Post.newTup {K : PySem.W.Frag} {mg : Str → Option Value} {g : G} {H : Hp} {σ : L2.St} {st : Store} {ds : List D} {vs : List V} {Q : VK} (h : Post K mg (Rep K mg) W g H σ (.ok (.tup ds) st) Q) (S : SOk K mg g st H) (r : RepL K mg g ds vs) {p : Addr} (hp : H p = none) :
    Q (.ref p) (upd H p (.tup vs)) := by
  obtain ⟨S', s'⟩ := S.newF (o := .tup vs) hp
  exact h _ _ _ s' (rep_tupF (S.kpn hp) r) S'
theorem Post.newLst {K : PySem.W.Frag} {mg : Str → Option Value} {g : G} {H : Hp} {σ : L2.St} {st : Store} {ds : List D} {vs : List V} {Q : VK} (h : Post K mg (Rep K mg) W g H σ (.ok (.lst ds) st) Q) (S : SOk K mg g st H) (r : RepL K mg g ds vs) {p : Addr} (hp : H p = none) :
    Q (.ref p) (upd H p (.lst vs)) := by
  obtain ⟨S', s'⟩ := S.newF (o := .lst vs) hp
  exact h _ _ _ s' (rep_lstF (S.kpn hp) r) S'
/-- behind a new thing of one's own -/
theorem SOk.newO {K : PySem.W.Frag} {mg : Str → Option Value} {g : G} {H : Hp} {st : Store} (S : SOk K mg g st H) {p : Addr} {o : HO} (hp : H p = none) (hw : Ow (some o) := by exact True.intro) :
    SOk K mg g st (upd H p o) ∧ Step g H [] g (upd H p o) [p] ∧ OsOk g (upd H p o) [p] := by
  have hk := S.kpn hp
  have hf := S.fpn hp
  refine ⟨⟨fun a u h => ?_, S.nd, S.fr, fun a ha => ?_, ?_⟩, ⟨Ext.refl g, fun a h _ _ => ?_, fun a h => ?_, fun a h => .inl h, fun a h => .inl h, fun a h => ?_⟩, ⟨?_, fun a h => ?_, fun a h => ?_, fun a h => ?_⟩⟩
  · rw [upd_ne (by rintro rfl; rw [hk] at h; cases h)]
    exact S.kp a u h
  · rw [upd_ne (by rintro rfl; exact hf ha)]
    exact S.th a ha
  · exact S.ob.step (Ext.refl g) fun a ha => upd_ne (by rintro rfl; exact hf ha)
  · exact upd_ne (by rintro rfl; exact h hp)
  · rw [upd_ne (by rintro rfl; exact h hp)]
    exact h
  · have e : a = p := by simpa using h
    subst e
    exact .inr hp
  · simp
  · have e : a = p := by simpa using h
    subst e
    rw [upd_same]; exact hw
  · have e : a = p := by simpa using h
    subst e
    exact hk
  · have e : a = p := by simpa using h
    subst e
    exact hf
theorem PostS.newLst {K : PySem.W.Frag} {mg : Str → Option Value} {g : G} {H : Hp} {σ : L2.St} {st : Store} {ds : List D} {vs : List V} {Q : VK} (h : PostS K mg W g H σ (.ok (.ol ds) st) Q) (S : SOk K mg g st H) (r : RepL K mg g ds vs) {p : Addr} (hp : H p = none) :
    Q (.ref p) (upd H p (.lst vs)) := by
  obtain ⟨S', s', o'⟩ := S.newO (o := .lst vs) hp
  exact h _ _ _ _ s' o' (.ol upd_same r) S'
theorem e_tup {k : Nat} {f : En → Store → Res (List D)} (h : AE X W es f) : EE X W (.Tuple es k pos) (vA mkTup f) := by
  refine ⟨fun pins s σ H Q I hq => ?_⟩
  obtain ⟨g, env, st, os, he, ho, hs, hq⟩ := hq
  refine (pe_tup h).run pins s σ H Q I ⟨g, env, st, os, he, ho, hs, (Post.bind hq).imp fun vs H1 q => ?_⟩
  obtain ⟨g1, xs, st1, s1, r, S1, h1⟩ := q
  unfold mkTup at h1
  split at h1
  · next hz => exact ⟨by rw [← r.length]; exact hz, fun p hp => h1.newTup S1 r hp⟩
  · exact h1.elim
theorem s_lst {f : En → Store → Res (List D)} (h : AE X W es f) : SE X W (.List es pos) (vA mkLst f) := by
  refine ⟨fun pins s σ H Q I hq => ?_⟩
  obtain ⟨g, env, st, os, he, ho, hs, hq⟩ := hq
  refine (pe_lst h).run pins s σ H Q I ⟨g, env, st, os, he, ho, hs, (Post.bindS hq).imp fun vs H1 q => ?_⟩
  obtain ⟨g1, xs, st1, s1, r, S1, h1⟩ := q
  unfold mkLst at h1
  split at h1
  · next hz => exact ⟨by rw [← r.length]; exact hz, fun p hp => h1.newLst S1 r hp⟩
  · exact h1.elim
/-! ### a fresh thing is frozen, or becomes an object of the store -/
def frz : Slot → Store → Res D := fun s st => match s with
  | .vl d => .ok d st
  | .ol ds => .ok (.lst ds) st
  | _ => .stuck
def vFrz (f : En → Store → Res Slot) : En → Store → Res D := fun env st => (f env st).bind frz
/-- one of one's own is frozen -/
theorem SOk.freeze {K : PySem.W.Frag} {mg : Str → Option Value} {g : G} {H : Hp} {st : Store} (S : SOk K mg g st H) {p : Addr} {o : HO} (hp : H p = some o) (hk : g.kp p = none) (hf : p ∉ g.fp) : SOk K mg (g.freeze p o) st H := by
  refine ⟨fun a u h => ?_, S.nd, fun a ha => ?_, S.th, S.ob.step (ext_freeze hk) fun a ha => rfl⟩
  · by_cases e : a = p
    · subst e
      have h' : upd g.kp a o a = some u := h
      rw [upd_same] at h'
      exact hp.trans h'
    · have h' : upd g.kp p o a = some u := h
      rw [upd_ne e] at h'
      exact S.kp a u h'
  · show upd g.kp p o a = none
    rw [upd_ne (by rintro rfl; exact hf ha)]
    exact S.fr a ha
theorem Step.freeze {g : G} {H : Hp} {p : Addr} {o : HO} (hk : g.kp p = none) : Step g H [p] (g.freeze p o) H [] :=
  ⟨ext_freeze hk, fun _ _ _ _ => rfl, fun _ h => h, fun _ h => .inl h, fun a h => by
    by_cases e : a = p
    · subst e; exact .inr (.inr (.inl (by simp)))
    · have h' : upd g.kp p o a ≠ none := h
      rw [upd_ne e] at h'
      exact .inl h', fun _ h => nomatch h⟩
theorem PostS.frz {K : PySem.W.Frag} {mg : Str → Option Value} {g : G} {H : Hp} {σ : L2.St} {r : Res Slot} {Q : VK} (h : Post K mg (Rep K mg) W g H σ (r.bind frz) Q) : PostS K mg W g H σ r Q := by
  cases r with
  | ok a st =>
    intro v g' H' l s o so S
    cases so with
    | un => exact (h : False).elim
    | vl r => exact h v g' H' s r S
    | @ol ds a vs ha r =>
      have hk := o.kp a List.mem_cons_self
      have hf := o.fp a List.mem_cons_self
      exact h _ _ _ (s.trans (Step.freeze hk)) (rep_lstF hk r) (S.freeze ha hk hf)
    | od _ _ _ _ => exact (h : False).elim
  | er e st => exact h
  | stuck => exact h
theorem e_frz {f : En → Store → Res Slot} (h : SE X W e f) : EE X W e (vFrz f) := by
  refine ⟨fun pins s σ H Q I hq => ?_⟩
  obtain ⟨g, env, st, os, he, ho, hs, hq⟩ := hq
  exact h.run pins s σ H Q I ⟨g, env, st, os, he, ho, hs, PostS.frz hq⟩
/-- .. or a value is a slot's -/
def vSl (f : En → Store → Res D) : En → Store → Res Slot := fun env st => (f env st).bind fun d st => .ok (.vl d) st
def toRef : Slot → Store → Res D := fun s st => match s with
  | .ol ds => .ok (.ref st.length) (st ++ [.cell (.ol ds)])
  | .od t kvs => .ok (.ref st.length) (st ++ [.cell (.od t kvs)])
  | _ => .stuck
def vRef (f : En → Store → Res Slot) : En → Store → Res D := fun env st => (f env st).bind toRef
def G.obj (g : G) (p : Addr) : G := ⟨g.kp, g.m ++ [(p, [p])]⟩
theorem G.obj_fp (g : G) (p : Addr) : (g.obj p).fp = g.fp ++ [p] := by simp [G.obj, G.fp, fpOf]
theorem G.obj_rs (g : G) (p : Addr) : (g.obj p).rs = g.rs ++ [p] := by simp [G.obj, G.rs]
theorem ext_obj {g : G} {p : Addr} : Ext g (g.obj p) := ⟨fun _ _ h => h, fun n a h => by
  rw [G.obj_rs, List.getElem?_append_left (List.getElem?_eq_some_iff.mp h).1]
  exact h⟩
theorem StOk.snoc {K : PySem.W.Frag} {mg : Str → Option Value} {g : G} {H : Hp} {o : SObj} {p : Addr × List Addr} : ∀ {st : Store} {m : List (Addr × List Addr)}, StOk K mg g H st m → ObOk K mg g H o p → StOk K mg g H (st ++ [o]) (m ++ [p])
  | _, _, .nil, h => .cons h .nil
  | _, _, .cons q t, h => .cons q (StOk.snoc t h)
/-- a thing of one's own becomes an object of the store -/
theorem SOk.toObj {K : PySem.W.Frag} {mg : Str → Option Value} {g' : G} {H' : Hp} {st : Store} {a : Addr} {u : Slot} {ho : HO} (S : SOk K mg g' st H') (hk : g'.kp a = none) (hf : a ∉ g'.fp) (ha : H' a = some ho) (so : ∀ g, Ext g' g → SlotOk K mg g H' u (some (.ref a)) [a]) :
    Step g' H' [a] (g'.obj a) H' [] ∧ Rep K mg (g'.obj a) (.ref st.length) (.ref a) ∧ SOk K mg (g'.obj a) (st ++ [.cell u]) H' := by
  have ln : st.length = g'.m.length := S.ob.length
  have e' : Ext g' (g'.obj a) := ext_obj
  refine ⟨⟨ext_obj, fun _ _ _ _ => rfl, fun _ h => h, fun x h => ?_, fun x h => .inl h, fun _ h => nomatch h⟩, .ref ?_, ⟨S.kp, ?_, fun x h => ?_, fun x h => ?_, ?_⟩⟩
  · rw [G.obj_fp] at h
    rcases List.mem_append.mp h with h | h
    · exact .inl h
    · exact .inr (.inr h)
  · rw [G.obj_rs, ln]
    have : g'.m.length = g'.rs.length := by simp [G.rs]
    rw [this, List.getElem?_append_right (Nat.le_refl _)]
    simp
  · rw [G.obj_fp, List.nodup_append]
    refine ⟨S.nd, by simp, fun x hx y hy e => ?_⟩
    have : y = a := by simpa using hy
    subst this
    subst e
    exact hf hx
  · rw [G.obj_fp] at h
    rcases List.mem_append.mp h with h | h
    · exact S.fr x h
    · have : x = a := by simpa using h
      subst this
      exact hk
  · rw [G.obj_fp] at h
    rcases List.mem_append.mp h with h | h
    · exact S.th x h
    · have : x = a := by simpa using h
      subst this
      rw [ha]; simp
  · exact (S.ob.step e' fun _ _ => rfl).snoc (.cell (so _ e'))
theorem PostS.toRef {K : PySem.W.Frag} {mg : Str → Option Value} {g : G} {H : Hp} {σ : L2.St} {r : Res Slot} {Q : VK} (h : Post K mg (Rep K mg) W g H σ (r.bind toRef) Q) : PostS K mg W g H σ r Q := by
  cases r with
  | ok a st =>
    intro v g' H' l s o so S
    cases so with
    | @ol ds a vs ha r =>
      obtain ⟨s', r', S'⟩ := S.toObj (o.kp a List.mem_cons_self) (o.fp a List.mem_cons_self) ha fun g e => .ol ha (r.ext e)
      exact h (.ref a) (g'.obj a) H' (s.trans s') r' S'
    | @od t kvs a ho ha r q nd =>
      obtain ⟨s', r', S'⟩ := S.toObj (o.kp a List.mem_cons_self) (o.fp a List.mem_cons_self) ha fun g e => .od ha (r.ext e) q nd
      exact h (.ref a) (g'.obj a) H' (s.trans s') r' S'
    | un o => exact (h : False).elim
    | vl r => exact (h : False).elim
  | er e st => exact h
  | stuck => exact h
theorem e_ref {f : En → Store → Res Slot} (h : SE X W e f) : EE X W e (vRef f) := by
  refine ⟨fun pins s σ H Q I hq => ?_⟩
  obtain ⟨g, env, st, os, he, ho, hs, hq⟩ := hq
  exact h.run pins s σ H Q I ⟨g, env, st, os, he, ho, hs, PostS.toRef hq⟩
end
end EV
set_option Elab.async false
set_option linter.all false
set_option autoImplicit false
set_option maxRecDepth 100000
set_option maxHeartbeats 400000
/-! statements, targets, loops, defs -/
namespace EV
open PySem PySem.Spec PyProof.Rows L2
section
variable (K : PySem.W.Frag) (mg : Str → Option Value) (W : Wi)
def PostSt (g : G) (H : Hp) (os : List Addr) (D : Ends) (r : ResS) : Prop :=
  match r with
  | .nx env st => ∀ σ' g' H' os', Step g H os g' H' os' → EnvOk K mg g' H' env σ' os' → OsOk g' H' os' → SOk K mg g' st H' → D.nx σ' H'
  | .rt d st => ∀ v g' H', Step g H os g' H' [] → Rep K mg g' d v → SOk K mg g' st H' → D.rt v H'
  | .br env st => ∀ σ' g' H' os', Step g H os g' H' os' → EnvOk K mg g' H' env σ' os' → OsOk g' H' os' → SOk K mg g' st H' → D.bk σ' H'
  | .ct env st => ∀ σ' g' H' os', Step g H os g' H' os' → EnvOk K mg g' H' env σ' os' → OsOk g' H' os' → SOk K mg g' st H' → D.ct σ' H'
  | .er e env st => ∀ σ' g' H' os', Step g H os g' H' os' → EnvOk K mg g' H' env σ' os' → OsOk g' H' os' → SOk K mg g' st H' → W e st g' H' σ'
  | .stuck => False
def tS (f : En → Store → ResS) : TS := fun D σ H => At K mg (fun g env st os => PostSt K mg W g H os D (f env st)) σ H
/-- a target -/
def tG (t : D → En → Store → ResS) : TG := fun v σ H Q => At K mg (fun g env st os => ∃ d, Rep K mg g d v ∧ PostSt K mg W g H os { nx := Q, rt := fun _ _ => False } (t d env st)) σ H
end
abbrev ST (X : Cx) (W : Wi) (st : Stmt) (f : En → Store → ResS) : Prop := PS X st (tS X.K X.mg W f)
abbrev STs (X : Cx) (W : Wi) (st : List Stmt) (f : En → Store → ResS) : Prop := PSs X st (tS X.K X.mg W f)
abbrev GE (X : Cx) (W : Wi) (e : Expr) (t : D → En → Store → ResS) : Prop := PG X e (tG X.K X.mg W t)
section
variable {K : PySem.W.Frag} {mg : Str → Option Value} {W : Wi} {g g' : G} {H H' : Hp} {os os' : List Addr} {σ : L2.St}
theorem Step.drop (s : Step g H os g' H' os') : Step g H os g' H' [] := ⟨s.ext, s.fr, s.th, s.nf, s.nk, fun _ h => nomatch h⟩
theorem PostSt.step {D : Ends} {r : ResS} (h : PostSt K mg W g H os D r) (s : Step g H os g' H' os') : PostSt K mg W g' H' os' D r := by
  cases r with
  | nx env st => exact fun σ' g2 H2 os2 s2 => h σ' g2 H2 os2 (s.trans s2)
  | rt d st => exact fun v g2 H2 s2 => h v g2 H2 (s.trans s2)
  | br env st => exact fun σ' g2 H2 os2 s2 => h σ' g2 H2 os2 (s.trans s2)
  | ct env st => exact fun σ' g2 H2 os2 s2 => h σ' g2 H2 os2 (s.trans s2)
  | er e env st => exact fun σ' g2 H2 os2 s2 => h σ' g2 H2 os2 (s.trans s2)
  | stuck => exact h
/-- an expression's result goes on as a statement's -/
def Res.go {α : Type} (env : En) (r : Res α) (k : α → Store → ResS) : ResS := match r with
  | .ok a st => k a st
  | .er e st => .er e env st
  | .stuck => .stuck
theorem PostSt.go {α β : Type} {R : G → α → β → Prop} {D : Ends} {env : En} {r : Res α} {k : α → Store → ResS} (he : EnvOk K mg g H env σ os) (ho : OsOk g H os) (h : PostSt K mg W g H os D (r.go env k)) :
    Post K mg R W g H σ r (fun v H1 => ∃ g1 a st1, Step g H [] g1 H1 [] ∧ R g1 a v ∧ SOk K mg g1 st1 H1 ∧ EnvOk K mg g1 H1 env σ os ∧ OsOk g1 H1 os ∧ PostSt K mg W g1 H1 os D (k a st1)) := by
  cases r with
  | ok a st => exact fun v g2 H2 s2 r S => ⟨g2, a, st, s2, r, S, he.step' ho s2, ho.step s2, PostSt.step h (s2.frame os)⟩
  | er e st => exact fun g2 H2 s2 S => h σ g2 H2 os (s2.frame os) (he.step' ho s2) (ho.step s2) S
  | stuck => exact h
theorem OsOk.app {l : List Addr} (ho : OsOk g H os) (s : Step g H [] g' H' l) (hl : OsOk g' H' l) : OsOk g' H' (l ++ os) := by
  have s0 : Step g H [] g' H' [] := s.drop
  have ho' := ho.step s0
  refine ⟨?_, fun a h => ?_, fun a h => ?_, fun a h => ?_⟩
  · rw [List.nodup_append]
    refine ⟨hl.nd, ho.nd, fun x hx y hy e => ?_⟩
    subst e
    rcases s.no x hx with q | q
    · exact nomatch q
    · exact (ho.th x hy).ne q
  · rcases List.mem_append.mp h with h | h
    · exact hl.th a h
    · exact ho'.th a h
  · rcases List.mem_append.mp h with h | h
    · exact hl.kp a h
    · exact ho'.kp a h
  · rcases List.mem_append.mp h with h | h
    · exact hl.fp a h
    · exact ho'.fp a h
theorem EnvOk.at_ : ∀ {env : En} {σ : L2.St} {os : List Addr} {i : Nat} {s : Slot}, EnvOk K mg g H env σ os → env[i]? = some s →
    ∃ o l os1 os2, σ[i]? = some o ∧ SlotOk K mg g H s o l ∧ os = os1 ++ (l ++ os2) ∧ ∀ s' o' l', SlotOk K mg g H s' o' l' → EnvOk K mg g H (env.set i s') (σ.set i o') (os1 ++ (l' ++ os2))
  | _, _, _, _, _, .nil, e => by simp at e
  | _, _, _, 0, _, .cons (l := l) (os := os0) h t, e => by
    simp at e; subst e
    exact ⟨_, l, [], os0, rfl, h, rfl, fun s' o' l' h' => by have q := EnvOk.cons h' t; exact q⟩
  | _, _, _, i + 1, s, .cons (l := l0) (os := os0) h t, e => by
    obtain ⟨o, l, os1, os2, h1, h2, h3, h4⟩ := EnvOk.at_ (i := i) (s := s) t (by simpa using e)
    refine ⟨o, l, l0 ++ os1, os2, by simpa using h1, h2, by rw [h3]; simp, fun s' o' l' h' => ?_⟩
    have q := EnvOk.cons h (h4 s' o' l' h')
    simpa using q
theorem EnvOk.length : ∀ {env : En} {σ : L2.St} {os : List Addr}, EnvOk K mg g H env σ os → env.length = σ.length
  | _, _, _, .nil => rfl
  | _, _, _, .cons _ t => by simp [EnvOk.length t]
theorem EnvOk.set {s : Slot} {o : Option V} {l : List Addr} {env : En} {os : List Addr} (hs : SlotOk K mg g H s o l) (i : Nat) (h : EnvOk K mg g H env σ os) :
    ∃ os', EnvOk K mg g H (env.set i s) (σ.set i o) os' ∧ (∀ a ∈ os', a ∈ l ++ os) ∧ ((l ++ os).Nodup → os'.Nodup) := by
  by_cases hi : i < env.length
  · obtain ⟨o', l', os1, os2, h1, h2, h3, h4⟩ := h.at_ (i := i) (s := env[i]) (by simp [hi])
    refine ⟨os1 ++ (l ++ os2), h4 _ _ _ hs, fun a ha => ?_, fun nd => ?_⟩
    · subst h3
      simp only [List.mem_append] at ha ⊢
      rcases ha with z | z | z
      · exact .inr (.inl z)
      · exact .inl z
      · exact .inr (.inr (.inr z))
    · subst h3
      simp only [List.nodup_append, List.mem_append] at nd ⊢
      obtain ⟨n1, ⟨n2, ⟨n3, n4, n5⟩, n6⟩, n7⟩ := nd
      refine ⟨n2, ⟨n1, n4, fun x hx y hy => n7 x hx y (.inr (.inr hy))⟩, fun x hx y hy e => ?_⟩
      subst e
      rcases hy with z | z
      · exact n7 x z x (.inl hx) rfl
      · exact n6 x hx x (.inr z) rfl
  · rw [List.set_eq_of_length_le (by omega), List.set_eq_of_length_le (by have := EnvOk.length h; omega)]
    exact ⟨os, h, fun a ha => List.mem_append_right _ ha, fun nd => (List.nodup_append.mp nd).2.1⟩
theorem OsOk.sub {os' : List Addr} (h : OsOk g H os) (hs : ∀ a ∈ os', a ∈ os) (nd : os'.Nodup) : OsOk g H os' :=
  ⟨nd, fun a x => h.th a (hs a x), fun a x => h.kp a (hs a x), fun a x => h.fp a (hs a x)⟩
theorem Step.sub {os2 : List Addr} (s : Step g H os g' H' os') (hs : ∀ a ∈ os2, a ∈ os') : Step g H os g' H' os2 :=
  ⟨s.ext, s.fr, s.th, s.nf, s.nk, fun a h => s.no a (hs a h)⟩
end
section
variable {X : Cx} {W : Wi} {st : Stmt} {rest : List Stmt} {f k : En → Store → ResS} {e : Expr} {fe : En → Store → Res D} {pos : Pos}
def sNil : En → Store → ResS := fun env st => .nx env st
def sSeq (f k : En → Store → ResS) : En → Store → ResS := fun env st => match f env st with
  | .nx env st => k env st
  | r => r
theorem At.imp {K : PySem.W.Frag} {mg : Str → Option Value} {P P' : G → En → Store → List Addr → Prop} {σ : L2.St} {H : Hp} (h : At K mg P σ H) (k : ∀ g env st os, P g env st os → P' g env st os) : At K mg P' σ H := by
  obtain ⟨g, env, st, os, a, b, c, d⟩ := h
  exact ⟨g, env, st, os, a, b, c, k _ _ _ _ d⟩
theorem ss_nil : STs X W [] sNil := by
  refine ⟨fun pins s σ H D I h => ?_⟩
  obtain ⟨g, env, st, os, he, ho, hs, h⟩ := h
  exact pss_nil.run pins s σ H D I (h σ g H os Step.refl he ho hs)
theorem ss_cons (h1 : ST X W st f) (h2 : STs X W rest k) : STs X W (st :: rest) (sSeq f k) := by
  refine ⟨fun pins s σ H D I h => ?_⟩
  refine (pss_cons h1 h2).run pins s σ H D I ?_
  obtain ⟨g, env, st, os, he, ho, hs, h⟩ := h
  refine ⟨g, env, st, os, he, ho, hs, ?_⟩
  unfold sSeq at h
  show PostSt _ _ _ _ _ _ _ (f env st)
  generalize f env st = r at h ⊢
  cases r with
  | nx env1 st1 => exact fun σ' g' H' os' s he' ho' hs' => ⟨g', env1, st1, os', he', ho', hs', PostSt.step h s⟩
  | rt d st1 => exact h
  | br env1 st1 => exact h
  | ct env1 st1 => exact h
  | er x env1 st1 => exact h
  | stuck => exact h
theorem ss_one (h1 : ST X W st f) : STs X W [st] f := pss_one h1
/-- an own list of slot i is frozen -/
def sFrz (i : Nat) (f : En → Store → ResS) : En → Store → ResS := fun env st => match env[i]? with
  | some (.ol ds) => f (env.set i (.vl (.lst ds))) st
  | _ => f env st
end
end EV
set_option Elab.async false
set_option linter.all false
set_option autoImplicit false
set_option maxRecDepth 100000
set_option maxHeartbeats 400000
/-! statements one by one; loops; defs -/
namespace EV
open PySem PySem.Spec PyProof.Rows L2
section
variable {X : Cx} {W : Wi} {st : Stmt} {f k : En → Store → ResS} {e : Expr} {fe : En → Store → Res D} {fs : En → Store → Res Slot} {pos : Pos}
def sRet (fe : En → Store → Res D) : En → Store → ResS := fun env st => (fe env st).go env fun d st => .rt d st
theorem st_ret (he : EE X W e fe) : ST X W (.Return (some e) pos) (sRet fe) := by
  refine ⟨fun pins s σ H D I h => ?_⟩
  obtain ⟨g, env, st, os, hv, ho, hs, h⟩ := h
  refine (ps_ret he).run pins s σ H D I ⟨g, env, st, os, hv, ho, hs, (PostSt.go hv ho h).imp fun v H1 q => ?_⟩
  obtain ⟨g1, a, st1, s1, r, S1, e1, o1, h1⟩ := q
  exact h1 v g1 H1 Step.refl.drop r S1
def sRetN : En → Store → ResS := fun _ st => .rt .non st
def sExpr (fe : En → Store → Res D) : En → Store → ResS := fun env st => (fe env st).go env fun _ st => .nx env st
theorem st_expr (he : EE X W e fe) (hs : swapsWith e none pos.line X.env = pure false := by rfl) : ST X W (.Expr e pos) (sExpr fe) := by
  refine ⟨fun pins s σ H D I h => ?_⟩
  obtain ⟨g, env, st, os, hv, ho, hS, h⟩ := h
  refine (ps_expr he hs).run pins s σ H D I ⟨g, env, st, os, hv, ho, hS, (PostSt.go hv ho h).imp fun v H1 q => ?_⟩
  obtain ⟨g1, a, st1, s1, r, S1, e1, o1, h1⟩ := q
  exact h1 σ g1 H1 os Step.refl e1 o1 S1
def sIf (t : En → Store → Res Bool) (f k : En → Store → ResS) : En → Store → ResS := fun env st => (t env st).go env fun c st => if c = true then f env st else k env st
theorem st_if {c : Expr} {a b : List Stmt} {t : En → Store → Res Bool} (hc : BE X W c t) (ha : STs X W a f) (hb : STs X W b k) : ST X W (.If c a b pos) (sIf t f k) := by
  refine ⟨fun pins s σ H D I h => ?_⟩
  obtain ⟨g, env, st, os, hv, ho, hS, h⟩ := h
  refine (ps_if hc ha hb).run pins s σ H D I ⟨g, env, st, os, hv, ho, hS, (PostSt.go hv ho h).imp fun v H1 q => ?_⟩
  obtain ⟨g1, a, st1, s1, r, S1, e1, o1, h1⟩ := q
  cases r
  cases v with
  | true => exact iteT ⟨g1, env, st1, os, e1, o1, S1, h1⟩
  | false => exact iteF ⟨g1, env, st1, os, e1, o1, S1, h1⟩
/-- behind a name's store -/
theorem PostSt.set {K : PySem.W.Frag} {mg : Str → Option Value} {g : G} {H : Hp} {os l : List Addr} {σ : L2.St} {env : En} {s : Slot} {o : Option V} {i : Nat} {st : Store} {D : Ends}
    (he : EnvOk K mg g H env σ os) (ho : OsOk g H (l ++ os)) (hs : SlotOk K mg g H s o l) (S : SOk K mg g st H) (h : PostSt K mg W g H (l ++ os) D (.nx (env.set i s) st)) : D.nx (σ.set i o) H := by
  obtain ⟨os', h1, h2, h3⟩ := he.set hs i
  exact h _ g H os' (Step.refl.sub h2) h1 (ho.sub h2 (h3 ho.nd)) S
def sSet (i : Nat) (fe : En → Store → Res D) : En → Store → ResS := fun env st => (fe env st).go env fun d st => .nx (env.set i (.vl d)) st
theorem st_set (i : Nat) {x : Str} {pos' : Pos} (hN : X.N.Nodup) (hi : X.N[i]? = some x) (hx : Loc X.env.scope x) (he : EE X W e fe) (hs : swapsWith e (some (.Name x pos')) pos.line X.env = pure false := by rfl) (hf : X.fn x = true ∨ X.env.scope.names.lookup x = some .local := by first | exact .inl rfl | exact .inr rfl | assumption) :
    ST X W (.Assign [.Name x pos'] e pos) (sSet i fe) := by
  refine ⟨fun pins s σ H D I h => ?_⟩
  obtain ⟨g, env, st, os, hv, ho, hS, h⟩ := h
  refine (ps_set hN hi hx he hs hf).run pins s σ H D I ⟨g, env, st, os, hv, ho, hS, (PostSt.go hv ho h).imp fun v H1 q => ?_⟩
  obtain ⟨g1, a, st1, s1, r, S1, e1, o1, h1⟩ := q
  exact PostSt.set (l := []) e1 o1 (.vl r) S1 h1
def sSetS (i : Nat) (fs : En → Store → Res Slot) : En → Store → ResS := fun env st => (fs env st).go env fun d st => .nx (env.set i d) st
/-! ### targets -/
def gN (i : Nat) : D → En → Store → ResS := fun d env st => .nx (env.set i (.vl d)) st
def gsN : List D → En → Store → ResS := fun ds env st => match ds with
  | [] => .nx env st
  | _ => .stuck
def gsC (t : D → En → Store → ResS) (u : List D → En → Store → ResS) : List D → En → Store → ResS := fun ds env st => match ds with
  | d :: ds => match t d env st with
    | .nx env st => u ds env st
    | .er e env st => .er e env st
    | _ => .stuck
  | _ => .stuck
def gTp (n : Nat) (t : List D → En → Store → ResS) : D → En → Store → ResS := fun d env st => match d with
  | .tup ds => if ds.length = n then t ds env st else .stuck
  | _ => .stuck
theorem SOk.sqT {K : PySem.W.Frag} {mg : Str → Option Value} {g : G} {st : Store} {H : Hp} (S : SOk K mg g st H) {a : Addr} {vs : List V} (h : TupAt K g.kp a vs) : SqT K H a vs := by
  rcases h with h | h
  · exact .inl (.inl (S.kp _ _ h))
  · exact h.2.elim
theorem SOk.tupAt {K : PySem.W.Frag} {mg : Str → Option Value} {g : G} {st : Store} {H : Hp} (S : SOk K mg g st H) {a : Addr} {vs : List V} (h : TupAt K g.kp a vs) : TupAt K H a vs := h.imp_left (S.kp _ _)
theorem SOk.sqL {K : PySem.W.Frag} {mg : Str → Option Value} {g : G} {st : Store} {H : Hp} (S : SOk K mg g st H) {a : Addr} {vs : List V} (h : SqL K g.kp a vs) : SqL K H a vs := by
  rcases h with (h | ⟨o, h⟩) | h
  · exact .inl (.inl (S.kp _ _ h))
  · exact .inl (.inr ⟨o, S.kp _ _ h⟩)
  · exact .inr h
def sAsg (fe : En → Store → Res D) (t : D → En → Store → ResS) : En → Store → ResS := fun env st => (fe env st).go env fun d st => match t d env st with
    | .nx env st => .nx env st
    | .er e env st => .er e env st
    | _ => .stuck
theorem st_asg {tg : Expr} {t : D → En → Store → ResS} (he : EE X W e fe) (hg : GE X W tg t) (hs : swapsWithSole [tg] e pos.line X.env = pure false := by rfl) (hw : swappedStores [tg] e X.env = pure none := by rfl)
    (h1 : (assignEach [tg] X.env).map (·.2) = [assign tg X.env] := by rfl) : ST X W (.Assign [tg] e pos) (sAsg fe t) := by
  refine ⟨fun pins s σ H D I h => ?_⟩
  obtain ⟨g, env, st, os, hv, ho, hS, h⟩ := h
  refine (ps_asg he hg hs hw h1).run pins s σ H D I ⟨g, env, st, os, hv, ho, hS, (PostSt.go hv ho h).imp fun v H1 q => ?_⟩
  obtain ⟨g1, a, st1, s1, r, S1, e1, o1, h1⟩ := q
  refine ⟨g1, env, st1, os, e1, o1, S1, a, r, ?_⟩
  revert h1
  generalize t a env st1 = q
  intro h1
  cases q with
  | nx env2 st2 => exact h1
  | er x env2 st2 => exact h1
  | _ => exact (h1 : False).elim
/-- a, b = x, y: two plain names -/
def sPar (i j : Nat) (f : En → Store → Res (List D)) : En → Store → ResS := fun env st => (f env st).go env fun ds st => match ds with
  | [a, b] => .nx ((env.set i (.vl a)).set j (.vl b)) st
  | _ => .stuck
theorem st_par {i j : Nat} {x y : Str} {a b : Expr} {fa : En → Store → Res (List D)} {px py pt : Pos} {kt k2 : Nat} {pt2 : Pos} (hc : X.calm = true) (hN : X.N.Nodup) (hi : X.N[i]? = some x) (hj : X.N[j]? = some y) (hij : i ≠ j)
    (hx : X.env.scope.names.lookup x = some .local) (hy : X.env.scope.names.lookup y = some .local) (ha : AE X W [a, b] fa)
    (hw : swappedStores [.Tuple [.Name x px, .Name y py] kt pt] (.Tuple [a, b] k2 pt2) X.env = pure (some [x, y]))
    (hs : swapsWithSole [.Tuple [.Name x px, .Name y py] kt pt] (.Tuple [a, b] k2 pt2) pos.line X.env = pure false := by rfl) :
    ST X W (.Assign [.Tuple [.Name x px, .Name y py] kt pt] (.Tuple [a, b] k2 pt2) pos) (sPar i j fa) := by
  refine ⟨fun pins s σ H D I h => ?_⟩
  obtain ⟨g, env, st, os, hv, ho, hS, h⟩ := h
  refine (ps_par hc hN hi hj hij hx hy ha hw hs).run pins s σ H D I ⟨g, env, st, os, hv, ho, hS, (PostSt.go hv ho h).imp fun v H1 q => ?_⟩
  obtain ⟨g1, a, st1, s1, r, S1, e1, o1, h1⟩ := q
  cases r with
  | nil => exact (h1 : False).elim
  | cons r t => cases t with
    | nil => exact (h1 : False).elim
    | cons r' t' => cases t' with
      | cons _ _ => exact (h1 : False).elim
      | nil =>
        refine ⟨_, _, rfl, ?_⟩
        obtain ⟨os', q1, q2, q3⟩ := e1.set (l := []) (.vl r) i
        obtain ⟨os2, p1, p2, p3⟩ := q1.set (l := []) (.vl r') j
        have o2 := o1.sub (os' := os') q2 (q3 (by simpa using o1.nd))
        exact h1 _ g1 H1 os2 (Step.refl.sub fun a ha => by simpa using q2 a (by simpa using p2 a ha)) p1 (o2.sub p2 (p3 (by simpa using o2.nd))) S1
/-! ### what is walked -/
/-- J yields the data ds, one by one -/
def Walks (K : PySem.W.Frag) (mg : Str → Option Value) (J : It) (g0 : G) (ds : List D) : Prop :=
  ∀ g H st, Ext g0 g → SOk K mg g st H → (∀ i, ds.length ≤ i → J.stop i H) ∧
    ∀ i d, ds[i]? = some d → J.go i H ∧ ∀ x H', J.yld i H x H' → ∃ g', Step g H [] g' H' [] ∧ Rep K mg g' d x ∧ SOk K mg g' st H'
def PostI (K : PySem.W.Frag) (mg : Str → Option Value) (W : Wi) (g : G) (H : Hp) (σ : L2.St) (r : Res (List D)) (R : It → Hp → Prop) : Prop := match r with
  | .ok ds st' => ∀ J g' H', Step g H [] g' H' [] → SOk K mg g' st' H' → Walks K mg J g' ds → R J H'
  | .er e st' => ∀ g' H', Step g H [] g' H' [] → SOk K mg g' st' H' → W e st' g' H' σ
  | .stuck => False
def tI (K : PySem.W.Frag) (mg : Str → Option Value) (W : Wi) (f : En → Store → Res (List D)) : TI := fun σ H R => At K mg (fun g env st _ => PostI K mg W g H σ (f env st) R) σ H
abbrev IE (X : Cx) (W : Wi) (tg e : Expr) (f : En → Store → Res (List D)) : Prop := PI X tg e (tI X.K X.mg W f)
def forL (t : D → En → Store → ResS) (body : En → Store → ResS) : List D → En → Store → ResS
  | [], env, st => .nx env st
  | d :: ds, env, st => match t d env st with
    | .nx env st => match body env st with
      | .nx env st => forL t body ds env st
      | .ct env st => forL t body ds env st
      | .br env st => .nx env st
      | r => r
    | .er e env st => .er e env st
    | _ => .stuck
def sFor (fi : En → Store → Res (List D)) (t : D → En → Store → ResS) (body : En → Store → ResS) : En → Store → ResS := fun env st => (fi env st).go env fun ds st => forL t body ds env st
theorem st_for {tg iter : Expr} {bd : List Stmt} {fi : En → Store → Res (List D)} {t : D → En → Store → ResS} {body : En → Store → ResS} (hp : PassesOwn (model X.prog X.w) X.A X.env X.xe) (hc : X.calm = true) (hi : IE X W tg iter fi) (hg : GE X W tg t) (hb : STs X W bd body)
    (hs : ∀ x, foldedSetIterable iter X.env x = pure x := by intro _; rfl) : ST X W (.For tg iter bd [] pos) (sFor fi t body) := by
  refine ⟨fun pins s σ H D I h => ?_⟩
  obtain ⟨g, env, st, os, hv, ho, hS, h⟩ := h
  refine (ps_for hp hc hi hg hb hs).run pins s σ H D I ⟨g, env, st, os, hv, ho, hS, ?_⟩
  have h' : PostSt X.K X.mg W g H os D ((fi env st).go env fun ds st => forL t body ds env st) := h
  show PostI _ _ _ _ _ _ (fi env st) _
  generalize fi env st = r at h' ⊢
  cases r with
  | stuck => exact h'
  | er x st1 => exact fun g2 H2 s2 S => h' σ g2 H2 os (s2.frame os) (hv.step' ho s2) (ho.step s2) S
  | ok ds st1 =>
    intro J g1 H1 s1 S1 wk
    refine ⟨fun i m σ H => m = ds.length - i ∧ i ≤ ds.length ∧ At X.K X.mg (fun g env st os => Ext g1 g ∧ PostSt X.K X.mg W g H os D (forL t body (ds.drop i) env st)) σ H, ⟨_, rfl, Nat.zero_le _, g1, env, st1, os, hv.step' ho s1, ho.step s1, S1, Ext.refl _, by rw [List.drop_zero]; exact PostSt.step h' (s1.frame os)⟩, ?_⟩
    rintro i m σ2 H2 ⟨rfl, hle, g2, env2, st2, os2, hv2, ho2, S2, x2, h2⟩
    obtain ⟨w1, w2⟩ := wk g2 H2 st2 x2 S2
    by_cases hlt : i < ds.length
    · refine .inr ⟨(w2 i ds[i] (by simp [hlt])).1, fun σ H => At X.K X.mg (fun g env st os => Ext g1 g ∧ PostSt X.K X.mg W g H os D (forL t body (ds.drop (i + 1)) env st)) σ H, fun σ' H' n => ⟨_, by omega, rfl, hlt, n⟩, fun x H3 y => ?_⟩
      obtain ⟨g3, s3, r3, S3⟩ := (w2 i ds[i] (by simp [hlt])).2 x H3 y
      refine ⟨g3, env2, st2, os2, hv2.step' ho2 s3, ho2.step s3, S3, ds[i], r3, ?_⟩
      rw [List.drop_eq_getElem_cons hlt] at h2
      have h3 := PostSt.step h2 (s3.frame os2)
      have x3 := x2.trans s3.ext
      unfold forL at h3
      generalize t ds[i] env2 st2 = q at h3 ⊢
      cases q with
      | nx env4 st4 =>
        intro σ4 g4 H4 os4 s4 hv4 ho4 S4
        refine ⟨g4, env4, st4, os4, hv4, ho4, S4, ?_⟩
        have h4 := PostSt.step h3 s4
        have x4 := x3.trans s4.ext
        simp only at h4
        show PostSt _ _ _ _ _ _ _ (body env4 st4)
        generalize body env4 st4 = q2 at h4 ⊢
        cases q2 with
        | nx env5 st5 => exact fun σ5 g5 H5 os5 s5 hv5 ho5 S5 => ⟨g5, env5, st5, os5, hv5, ho5, S5, x4.trans s5.ext, PostSt.step h4 s5⟩
        | ct env5 st5 => exact fun σ5 g5 H5 os5 s5 hv5 ho5 S5 => ⟨g5, env5, st5, os5, hv5, ho5, S5, x4.trans s5.ext, PostSt.step h4 s5⟩
        | br env5 st5 => exact h4
        | rt d st5 => exact h4
        | er x env5 st5 => exact h4
        | stuck => exact h4
      | er x env4 st4 => exact h3
      | _ => exact (h3 : False).elim
    · have e : i = ds.length := by omega
      subst e
      refine .inl ⟨w1 _ (Nat.le_refl _), ?_⟩
      rw [List.drop_length] at h2
      exact h2 σ2 g2 H2 os2 Step.refl hv2 ho2 S2
/-! ### while -/
def whL (t : En → Store → Res Bool) (body : En → Store → ResS) : Nat → En → Store → ResS
  | 0, _, _ => .stuck
  | n + 1, env, st => (t env st).go env fun c st => if c = true then (match body env st with
      | .nx env st => whL t body n env st
      | .ct env st => whL t body n env st
      | .br env st => .nx env st
      | r => r) else .nx env st
theorem st_while (n : Nat) {c : Expr} {bd : List Stmt} {t : En → Store → Res Bool} {body : En → Store → ResS} (hp : PassesOwn (model X.prog X.w) X.A X.env X.xe) (hc : BE X W c t) (hb : STs X W bd body) : ST X W (.While c bd [] pos) (whL t body n) := by
  refine ⟨fun pins s σ H D I h => ?_⟩
  refine (ps_while hp hc hb).run pins s σ H D I ⟨fun m σ H => At X.K X.mg (fun g env st os => PostSt X.K X.mg W g H os D (whL t body m env st)) σ H, ⟨n, h⟩, ?_⟩
  rintro m σ2 H2 ⟨g, env, st, os, hv, ho, hS, h2⟩
  cases m with
  | zero => exact (h2 : False).elim
  | succ m =>
    refine ⟨g, env, st, os, hv, ho, hS, (PostSt.go hv ho h2).imp fun v H1 q => ?_⟩
    obtain ⟨g1, a, st1, s1, r, S1, e1, o1, h1⟩ := q
    cases r
    cases v with
    | true =>
      refine iteT ⟨_, fun σ' H' n => ⟨m, Nat.lt_succ_self m, n⟩, g1, env, st1, os, e1, o1, S1, ?_⟩
      simp only [if_true] at h1
      show PostSt _ _ _ _ _ _ _ (body env st1)
      generalize body env st1 = q2 at h1 ⊢
      cases q2 with
      | nx env5 st5 => exact fun σ5 g5 H5 os5 s5 hv5 ho5 S5 => ⟨g5, env5, st5, os5, hv5, ho5, S5, PostSt.step h1 s5⟩
      | ct env5 st5 => exact fun σ5 g5 H5 os5 s5 hv5 ho5 S5 => ⟨g5, env5, st5, os5, hv5, ho5, S5, PostSt.step h1 s5⟩
      | br env5 st5 => exact h1
      | rt d st5 => exact h1
      | er x env5 st5 => exact h1
      | stuck => exact h1
    | false => exact iteF (h1 σ2 g1 H1 os Step.refl e1 o1 S1)
end
end EV
set_option Elab.async false
set_option linter.all false
set_option autoImplicit false
set_option maxRecDepth 100000
set_option maxHeartbeats 400000
/-! defs and their calls -/
namespace EV
open PySem PySem.Spec PyProof.Rows L2
structure Rm (k : Nat) (A : Around) : Prop where
  room : Room k A
  gd : A.guards = some []
theorem Rm.mono {j k : Nat} {A : Around} (r : Rm k A) (h : j ≤ k) : Rm j A := ⟨r.room.mono h, r.gd⟩
/-- how an error lies in the heap -/
def ErOk (K : PySem.W.Frag) (mg : Str → Option Value) (g : G) (e : Er) (cls : Value) (d : Option Addr) : Prop :=
  mg e.cls = some cls ∧ ∃ c dd zs, cls = .ref c ∧ d = some dd ∧ g.kp dd = some (.xd zs) ∧ RepF K mg g e.fs zs
def wOf (K : PySem.W.Frag) (mg : Str → Option Value) (W : Wi) : WX := fun cls d σ H' => ∃ e st' g', SOk K mg g' st' H' ∧ ErOk K mg g' e cls d ∧ W e st' g' H' σ
theorem takes0 {X : Cx} {K : PySem.W.Frag} {mg : Str → Option Value} : L2N.Takes X (wOf K mg W0) := fun u s' ⟨a, B, sI, pins, σ, H, cls, d, e, I, nb, up, sky, na, os, ag, w⟩ => by
  obtain ⟨_, _, _, _, _, z⟩ := w
  exact z.elim
/-- a def's promise by its function over data -/
def spE (K : PySem.W.Frag) (mg : Str → Option Value) (n : Nat) (F : List D → Store → Res D) : Sp := fun vs H Q E => ∃ g ds st, ds.length = n ∧ RepL K mg g ds vs ∧ SOk K mg g st H ∧ match F ds st with
  | .ok d st' => ∀ v g' H', Step g H [] g' H' [] → Rep K mg g' d v → SOk K mg g' st' H' → Q v H'
  | .er e st' => ∀ cls d g' H', Step g H [] g' H' [] → SOk K mg g' st' H' → ErOk K mg g' e cls d → E cls d H'
  | .stuck => False
structure FnG (P : Program) (w : World) (K : PySem.W.Frag) (mg : Str → Option Value) (base : Heap) (k : Nat) (f : Addr) (fd : FuncData) (ps : List Str) (sp : Sp) : Prop where
  len : ∀ vs H Q E, sp vs H Q E → vs.length = ps.length
  run : ∀ (A : Around) (outer : List Env) (s : Shared) (H : Hp) (args : Args) (us : List Value) (vs : List V) (Q : VK) (E : XK), Rm k A → Env0 P w K mg base A outer s H → BindsTo s fd args (ps.zip us) → Vals vs us → sp vs H Q E →
    codeAny (model P w) A (.call (.ref f) args) (CR (L2N.CX P w) outer P w H s Q E) s
theorem FnG.mono {P : Program} {w : World} {K : PySem.W.Frag} {mg : Str → Option Value} {base : Heap} {j k : Nat} {f : Addr} {fd : FuncData} {ps : List Str} {sp : Sp} (F : FnG P w K mg base j f fd ps sp) (h : j ≤ k) :
    FnG P w K mg base k f fd ps sp := ⟨F.len, fun A outer s H args us vs Q E hr => F.run A outer s H args us vs Q E (hr.mono h)⟩
theorem fnG_of {P : Program} {w : World} {K : PySem.W.Frag} {mg : Str → Option Value} {base : Heap} {k : Nat} {f : Addr} {name qual : Str} {params : Arguments} {body : List Stmt} {scope : Scope} {dV kV doc pm cdv ct oc : Value} {an od : Option Addr}
    {osl : Array (Option Value)} {N ps : List Str} {sp : Sp} (lk : K.lookup f = some ⟨oc, od, .func (PySem.W.fnOf name qual params body scope dV kV doc pm an cdv ct), osl⟩) (hcd : PySem.W.codeIn K cdv qual = true) (S : FnScope N ps scope)
    (len : ∀ vs H Q E, sp vs H Q E → vs.length = ps.length)
    (hbody : ∀ (A : Around) (outer : List Env) (s : Shared) (H : Hp) (vs : List V) (Q : VK) (E : XK), Rm k (A.deeper (envOfC qual scope s.heap.objs.size f cdv)) → sp vs H Q E →
      ∃ t, PSs (cxOf (L2N.CX P w) P w K mg base N qual scope f cdv A outer s H E) body t ∧ t { nx := fun _ H' => Q .non H', rt := Q } (start N vs) H) :
    FnG P w K mg base (k + 1) f (PySem.W.fnOf name qual params body scope dV kV doc pm an cdv ct) ps sp := by
  refine ⟨len, fun A outer s H args us vs Q E hr e0 hb r hsp => ?_⟩
  have hl := len _ _ _ _ hsp
  have KX : K.In s.heap := e0.mod.kin.keeps fun b o e => (e0.bs b o e).1
  have lim : s.heap.NoLimit := e0.mod.nolimit.keeps fun b o e => (e0.bs b o e).1
  have hkind : ∀ y ∈ ps.zip us, scope.names.lookup y.1 = some .local ∨ (scope.names.lookup y.1 = some .cell ∧ ((cellsFrom (s.heap.objs.size + 1) scope.names []).lookup y.1).isSome = true) := fun ⟨n, v⟩ hy => by
    rcases S.par n (List.of_mem_zip hy).1 with q | q
    · exact .inl q
    · exact .inr ⟨q, PySem.W.cellsFrom_some _ _ _ (.inl q)⟩
  refine codeAny_call_function hr.room.depth (KX _ _ lk) rfl S.co S.gen rfl (PySem.W.codeRec_of KX hcd) (hb _ _ _ _ ?_)
  refine wpAny_newFunctionEnv_cells S.kind hkind fun env he s1 x => ?_
  subst he
  refine ⟨lim.keeps x.toInCall.keep, codeAny_func ?_⟩
  obtain ⟨t, ht, hq⟩ := hbody A outer s H vs Q E ⟨hr.room.deeper _, hr.gd⟩ hsp
  have I : L2.Inv (cxOf (L2N.CX P w) P w K mg base N qual scope f cdv A outer s H E) [] (start N vs) H s1 := inv_start S hr.room.hd e0 hl r x
  refine wpAny_mono (ht.run [] s1 (start N vs) H _ I hq) (fun fl s' hs => ?_) fun e s' hs => hs
  have fin : ∀ {σ' : L2.St} {H' : Hp} {v : V} {u : Value}, L2.Inv (cxOf (L2N.CX P w) P w K mg base N qual scope f cdv A outer s H E) [] σ' H' s' → RelV v u → Q v H' → CE outer P w H s Q u s' :=
    fun {σ' H' v u} J rv q => ⟨v, H', J.os, J.bare, J.base, J.hok, rv, q⟩
  cases fl with
  | ret u =>
    obtain ⟨v, σ', H', J, rv, q⟩ := hs
    exact fin J rv q
  | next =>
    obtain ⟨σ', H', J, q⟩ := hs
    exact fin (v := V.non) (u := Value.none) J rfl q
  | brk =>
    obtain ⟨_, _, _, q⟩ := hs
    exact False.elim q
  | cont =>
    obtain ⟨_, _, _, q⟩ := hs
    exact False.elim q
/-- the wish of a def's body -/
def wE (K : PySem.W.Frag) (mg : Str → Option Value) (E : XK) : Wi := fun e _ g' H' _ => ∀ cls d, ErOk K mg g' e cls d → E cls d H'
/-- a def's function, of its body's -/
def fnF (n m : Nat) (body : En → Store → ResS) : List D → Store → Res D := fun ds st => if ds.length = n then (match body (ds.map Slot.vl ++ List.replicate m Slot.un) st with
  | .nx _ st => .ok .non st
  | .rt d st => .ok d st
  | .er e _ st => .er e st
  | _ => .stuck) else .stuck
theorem env_start {K : PySem.W.Frag} {mg : Str → Option Value} {g : G} {H : Hp} {m : Nat} : ∀ {ds : List D} {vs : List V}, RepL K mg g ds vs → EnvOk K mg g H (ds.map Slot.vl ++ List.replicate m Slot.un) (vs.map some ++ List.replicate m none) []
  | _, _, .nil => by
    induction m with
    | zero => exact .nil
    | succ m ih => exact EnvOk.cons (l := []) (.un none) ih
  | _, _, .cons r t => EnvOk.cons (l := []) (.vl r) (env_start t)
theorem osOk_nil {g : G} {H : Hp} : OsOk g H [] := ⟨List.nodup_nil, fun _ h => (nomatch h), fun _ h => (nomatch h), fun _ h => (nomatch h)⟩
theorem spE_len {K : PySem.W.Frag} {mg : Str → Option Value} {n : Nat} {F : List D → Store → Res D} {vs : List V} {H : Hp} {Q : VK} {E : XK} (h : spE K mg n F vs H Q E) : vs.length = n := by
  obtain ⟨g, ds, st, hl, r, _⟩ := h
  rw [← r.length]; exact hl
theorem takes_def {CXx : CXT} {P : Program} {w : World} {K : PySem.W.Frag} {mg : Str → Option Value} {base : Heap} {N : List Str} {qual : Str} {scope : Scope} {f : Addr} {cd : Value} {A : Around} {outer : List Env} {s : Shared} {H : Hp} {E : XK} :
    L2N.Takes (cxOf (L2N.CX P w) P w K mg base N qual scope f cd A outer s H E) (wOf K mg (wE K mg E)) :=
  (L2N.takes_of (E := E) rfl rfl rfl rfl).imp fun cls d σ H' ⟨e, st', g', S, eo, w⟩ => w cls d eo
section
variable {P : Program} {w : World} {K : PySem.W.Frag} {mg : Str → Option Value} {base : Heap}
/-- THE RULE for a def -/
theorem fn_ok {x qual : Str} {st : Stmt} {f : Addr} {fd : FuncData} {N ps : List Str} {k m : Nat} {body : En → Store → ResS} (F : Fun K x qual st f fd) (S : FnScope N ps (defScope st)) (hN : N.length = ps.length + m)
    (hbody : ∀ (cdv : Value) (A : Around) (outer : List Env) (s : Shared) (H : Hp) (E : XK), Rm k (A.deeper (envOfC qual (defScope st) s.heap.objs.size f cdv)) →
      L2N.Takes (cxOf (L2N.CX P w) P w K mg base N qual (defScope st) f cdv A outer s H E) (wOf K mg (wE K mg E)) →
      STs (cxOf (L2N.CX P w) P w K mg base N qual (defScope st) f cdv A outer s H E) (wE K mg E) (defBody st) body) : FnG P w K mg base (k + 1) f fd ps (spE K mg ps.length (fnF ps.length m body)) := by
  obtain ⟨oc, od, kV, doc, pm, an, cdv, ct, osl, rfl, lk, hcd⟩ := F.ex
  refine fnG_of lk hcd S (fun vs H Q E h => spE_len h) fun A outer s H vs Q E hr hsp => ?_
  refine ⟨_, hbody cdv A outer s H E hr (takes_def (CXx := L2N.CX P w)), ?_⟩
  obtain ⟨g, ds, st0, hl, r, hS, h⟩ := hsp
  have hm : N.length - vs.length = m := by rw [← r.length, hl]; omega
  refine ⟨g, ds.map Slot.vl ++ List.replicate m Slot.un, st0, [], by unfold L2.start; rw [hm]; exact env_start r, osOk_nil, hS, ?_⟩
  unfold fnF at h
  rw [if_pos hl] at h
  revert h
  show (match (match body (ds.map Slot.vl ++ List.replicate m Slot.un) st0 with | .nx _ st => .ok .non st | .rt d st => .ok d st | .er e _ st => .er e st | _ => .stuck : Res D) with
    | .ok d st' => _
    | .er e st' => _
    | .stuck => False) → PostSt K mg _ g H [] _ (body (ds.map Slot.vl ++ List.replicate m Slot.un) st0)
  generalize body (ds.map Slot.vl ++ List.replicate m Slot.un) st0 = q
  intro h
  cases q with
  | nx env st1 => exact fun σ' g' H' os' s1 e1 o1 S1 => h .non g' H' s1.drop .non S1
  | rt d st1 => exact fun v g' H' s1 r1 S1 => h v g' H' s1 r1 S1
  | er e env st1 => exact fun σ' g' H' os' s1 e1 o1 S1 cls d eo => h cls d g' H' s1.drop S1 eo
  | br _ _ => exact (h : False).elim
  | ct _ _ => exact (h : False).elim
  | stuck => exact (h : False).elim
end
section
variable {X : Cx} {W : Wi} {k : Nat} {f : Addr} {fd : FuncData} {ps : List Str} {F : List D → Store → Res D} {x : Str} {p pos : Pos} {e : Expr} {es : List Expr} {fa : En → Store → Res (List D)}
/-- the callee runs -/
theorem run_fnG {pins : List (Addr × Obj)} {σ : L2.St} {H : Hp} {s : Shared} {Q : VK} {us : List Value} {vs : List V} {args : Args} {g : G} {ds : List D} {st : Store} (FG : FnG X.prog X.w X.K X.mg X.base k f fd ps (spE X.K X.mg ps.length F)) (hr : Rm k X.A) (tk : L2N.Takes X (wOf X.K X.mg W))
    (hb : BindsTo s fd args (ps.zip us)) (I : L2.Inv X pins σ H s) (r : Vals vs us) (hl : ds.length = ps.length) (rd : RepL X.K X.mg g ds vs) (S : SOk X.K X.mg g st H) (h : Post X.K X.mg (Rep X.K X.mg) W g H σ (F ds st) Q) :
    codeAny (model X.prog X.w) X.A (.call (.ref f) args) (fun r s' => match r with | .ok (.ret u) => EP X pins σ Q u s' | .ok _ => False | .error e => X.xe e s') s := by
  refine codeAny_mono (FG.run X.A X.stack s H args us vs Q (fun cls d H' => ∃ e st' g', SOk X.K X.mg g' st' H' ∧ ErOk X.K X.mg g' e cls d ∧ W e st' g' H' σ) hr I.env0 hb r ⟨g, ds, st, hl, rd, S, ?_⟩) fun r s' hq => ?_
  · revert h
    generalize F ds st = q
    intro h
    cases q with
    | ok d st' => exact h
    | er e st' => exact fun cls d g' H' s1 S1 eo => ⟨e, st', g', S1, eo, h g' H' s1 S1⟩
    | stuck => exact h
  · cases r with
    | error e => exact tk _ _ (L2N.XE.of_call I (fun cls d H' hE => hE) hq)
    | ok fl =>
      cases fl with
      | ret u => exact I.after hq
      | next => exact False.elim hq
      | brk => exact False.elim hq
      | cont => exact False.elim hq
def fnN (n : Nat) (F : List D → Store → Res D) : List D → Store → Res D := fun ds st => if ds.length = n then F ds st else .stuck
/-- f(e, ..) -/
theorem e_call (FG : FnG X.prog X.w X.K X.mg X.base k f fd ps (spE X.K X.mg ps.length F)) (hr : Rm k X.A) (tk : L2N.Takes X (wOf X.K X.mg W)) (hg : Gl X x) (hm : X.mg x = some (.ref f)) (hk : PySem.W.keepIn X.K (.ref f) = true) (hb : Binds X.K fd ps [])
    (ha : AE X W (e :: es) fa) (hdb : (x == ("__debug__" : Str)) = false := by decide) (he : starEach (e :: es) X.env = (false, eval e X.env) :: starEach es X.env := by rfl) (hpl : (backTo pos (starEach es X.env)).any (·.1) = false := by rfl) :
    EE X W (.Call (.Name x p) (e :: es) [] pos) (vA (fnN ps.length F) fa) := by
  refine ⟨fun pins s σ H Q I h => ?_⟩
  obtain ⟨g, env, st, os, hv, ho, hS, h⟩ := h
  refine wpAny_Call_Name_kw (ld_glob I hg hm ?_ hdb)
  refine PySem.W.callWith_K (h₀ := X.base) I.ok.mod.kin hk (thn (ha.run pos pins s σ H _ I ⟨g, env, st, os, hv, ho, hS, Post.bind h⟩) fun us s1 ⟨vs, H1, I1, r, q⟩ => ⟨I1.kIn, ?_⟩) he hpl
  obtain ⟨g1, ds, st1, s1', rd, S1, h1⟩ := q
  unfold fnN at h1
  split at h1
  · next hl =>
    have hb' := hb s1 us I1.kIn (by rw [List.append_nil, ← r.length, ← rd.length]; exact hl)
    rw [List.append_nil] at hb'
    refine wpAny_call (codeAny_mono (run_fnG FG hr tk hb' I1 r hl rd S1 h1) fun r s' hq => ?_)
    cases r with
    | error e => exact hq
    | ok fl =>
      cases fl with
      | ret u => exact hq
      | next => exact False.elim hq
      | brk => exact False.elim hq
      | cont => exact False.elim hq
  · exact h1.elim
end
end EV
set_option Elab.async false
set_option linter.all false
set_option autoImplicit false
set_option maxRecDepth 100000
set_option maxHeartbeats 400000
/-! operations on data -/
namespace EV
open PySem PySem.Spec PyProof.Rows L2
/-! ### data of PyData's kind -/
mutual
def D.pd : D → Option PyData
  | .non => some .none
  | .bl b => some (.bool b)
  | .int i => some (.int i)
  | .str x => some (.str x)
  | .tup xs => (D.pds xs).map .tuple
  | .lst xs => (D.pds xs).map .list
  | _ => none
def D.pds : List D → Option (List PyData)
  | [] => some []
  | x :: xs => match D.pd x, D.pds xs with
    | some a, some b => some (a :: b)
    | _, _ => none
end
section
variable {K : PySem.W.Frag} {mg : Str → Option Value}
theorem rep_dp {g : G} {st : Store} {H : Hp} (S : SOk K mg g st H) : (∀ {d : D} {v : V}, Rep K mg g d v → ∀ p, d.pd = some p → Dp K H v p) ∧ ∀ {ds : List D} {vs : List V}, RepL K mg g ds vs → ∀ ps, D.pds ds = some ps → DpAll K H vs ps := by
  constructor
  · intro d v r
    refine Rep.rec (motive_1 := fun d v _ => ∀ p, d.pd = some p → Dp K H v p) (motive_2 := fun ds vs _ => ∀ ps, D.pds ds = some ps → DpAll K H vs ps) (motive_3 := fun _ _ _ => True) (motive_4 := fun _ _ _ => True) ?_ ?_ ?_ ?_ ?_ ?_ ?_ ?_ ?_ ?_ ?_ ?_ ?_ ?_ ?_ ?_ ?_ ?_ ?_ ?_ ?_ r
    · intro p e; cases e; exact .non
    · intro b p e; cases e; exact .bl b
    · intro i p e; cases e; exact .int i
    · intro x p e; cases e; exact .str x
    · intro a vs ds h r ih p e
      unfold D.pd at e
      cases q : D.pds ds with
      | none => rw [q] at e; cases e
      | some ps => rw [q] at e; cases e; exact .tup (S.sqT h) (ih _ q)
    · intro a vs ds h r ih p e
      unfold D.pd at e
      cases q : D.pds ds with
      | none => rw [q] at e; cases e
      | some ps => rw [q] at e; cases e; exact .lst (SqL.of (S.kp _ _ h)) (ih _ q)
    · intro a xs h p e; cases e
    · intro n a h p e; cases e
    · intro x a h k p e; cases e
    · intro n p e; cases e
    · intro a vs ds h r ih p e; cases e
    · intro a ob o kvs h r ih p e; cases e
    · intro C c a dd oe fs zs m h hd r ih p e; cases e
    · intro ps e; cases e; exact .nil
    · intro d ds v vs r t ih iht ps e
      unfold D.pds at e
      split at e
      · next a b ea eb => cases e; exact .cons (ih _ ea) (iht _ eb)
      · cases e
    all_goals (intros; trivial)
  · intro ds vs r
    refine RepL.rec (motive_1 := fun d v _ => ∀ p, d.pd = some p → Dp K H v p) (motive_2 := fun ds vs _ => ∀ ps, D.pds ds = some ps → DpAll K H vs ps) (motive_3 := fun _ _ _ => True) (motive_4 := fun _ _ _ => True) ?_ ?_ ?_ ?_ ?_ ?_ ?_ ?_ ?_ ?_ ?_ ?_ ?_ ?_ ?_ ?_ ?_ ?_ ?_ ?_ ?_ r
    · intro p e; cases e; exact .non
    · intro b p e; cases e; exact .bl b
    · intro i p e; cases e; exact .int i
    · intro x p e; cases e; exact .str x
    · intro a vs ds h r ih p e
      unfold D.pd at e
      cases q : D.pds ds with
      | none => rw [q] at e; cases e
      | some ps => rw [q] at e; cases e; exact .tup (S.sqT h) (ih _ q)
    · intro a vs ds h r ih p e
      unfold D.pd at e
      cases q : D.pds ds with
      | none => rw [q] at e; cases e
      | some ps => rw [q] at e; cases e; exact .lst (SqL.of (S.kp _ _ h)) (ih _ q)
    · intro a xs h p e; cases e
    · intro n a h p e; cases e
    · intro x a h k p e; cases e
    · intro n p e; cases e
    · intro a vs ds h r ih p e; cases e
    · intro a ob o kvs h r ih p e; cases e
    · intro C c a dd oe fs zs m h hd r ih p e; cases e
    · intro ps e; cases e; exact .nil
    · intro d ds v vs r t ih iht ps e
      unfold D.pds at e
      split at e
      · next a b ea eb => cases e; exact .cons (ih _ ea) (iht _ eb)
      · cases e
    all_goals (intros; trivial)
theorem Rep.dp {g : G} {st : Store} {H : Hp} (S : SOk K mg g st H) {d : D} {v : V} {p : PyData} (r : Rep K mg g d v) (e : d.pd = some p) : Dp K H v p := (rep_dp S).1 r p e
theorem RepL.dp {g : G} {st : Store} {H : Hp} (S : SOk K mg g st H) {ds : List D} {vs : List V} {ps : List PyData} (r : RepL K mg g ds vs) (e : D.pds ds = some ps) : DpAll K H vs ps := (rep_dp S).2 r ps e
end
/-! ### objects of the store that are lists, seen through -/
mutual
def rsvW (f : Nat → Option D) : D → Option D
  | .tup xs => (rsvWs f xs).map .tup
  | .lst xs => (rsvWs f xs).map .lst
  | .ref m => f m
  | d => some d
def rsvWs (f : Nat → Option D) : List D → Option (List D)
  | [] => some []
  | x :: xs => match rsvW f x, rsvWs f xs with
    | some a, some b => some (a :: b)
    | _, _ => none
end
def rsv (st : Store) : Nat → D → Option D
  | 0, d => rsvW (fun _ => none) d
  | n + 1, d => rsvW (fun m => match st[m]? with | some (.cell (.ol ds)) => rsv st n (.lst ds) | _ => none) d
def pdR (st : Store) (d : D) : Option PyData := match d.pd with
  | some p => some p
  | none => (rsv st 3 d).bind D.pd
theorem pdR_of {st : Store} {d : D} {p : PyData} (e : d.pd = some p) : pdR st d = some p := by unfold pdR; rw [e]
section
variable {K : PySem.W.Frag} {mg : Str → Option Value}
theorem rsvW_dp {g : G} {st : Store} {H : Hp} (S : SOk K mg g st H) {f : Nat → Option D} (hf : ∀ (m : Nat) (a : Addr), g.rs[m]? = some a → ∀ d', f m = some d' → ∀ p, d'.pd = some p → Dp K H (.ref a) p) :
    (∀ {d : D} {v : V}, Rep K mg g d v → ∀ d', rsvW f d = some d' → ∀ p, d'.pd = some p → Dp K H v p) ∧ ∀ {ds : List D} {vs : List V}, RepL K mg g ds vs → ∀ ds', rsvWs f ds = some ds' → ∀ ps, D.pds ds' = some ps → DpAll K H vs ps := by
  have key : (∀ {ds : List D} {vs : List V}, RepL K mg g ds vs → ∀ ds', rsvWs f ds = some ds' → ∀ ps, D.pds ds' = some ps → DpAll K H vs ps) := by
    intro ds vs r
    refine RepL.rec (motive_1 := fun d v _ => ∀ d', rsvW f d = some d' → ∀ p, d'.pd = some p → Dp K H v p) (motive_2 := fun ds vs _ => ∀ ds', rsvWs f ds = some ds' → ∀ ps, D.pds ds' = some ps → DpAll K H vs ps) (motive_3 := fun _ _ _ => True) (motive_4 := fun _ _ _ => True) ?_ ?_ ?_ ?_ ?_ ?_ ?_ ?_ ?_ ?_ ?_ ?_ ?_ ?_ ?_ ?_ ?_ ?_ ?_ ?_ ?_ r
    · intro d' h p e; unfold rsvW at h; cases h; cases e; exact .non
    · intro b d' h p e; unfold rsvW at h; cases h; cases e; exact .bl b
    · intro i d' h p e; unfold rsvW at h; cases h; cases e; exact .int i
    · intro x d' h p e; unfold rsvW at h; cases h; cases e; exact .str x
    · intro a vs ds h r ih d' h' p e
      unfold rsvW at h'
      cases hq : rsvWs f ds with
      | none => rw [hq] at h'; cases h'
      | some ds' =>
        rw [hq] at h'; cases h'
        unfold D.pd at e
        cases q : D.pds ds' with
        | none => rw [q] at e; cases e
        | some ps => rw [q] at e; cases e; exact .tup (S.sqT h) (ih _ hq _ q)
    · intro a vs ds h r ih d' h' p e
      unfold rsvW at h'
      cases hq : rsvWs f ds with
      | none => rw [hq] at h'; cases h'
      | some ds' =>
        rw [hq] at h'; cases h'
        unfold D.pd at e
        cases q : D.pds ds' with
        | none => rw [q] at e; cases e
        | some ps => rw [q] at e; cases e; exact .lst (SqL.of (S.kp _ _ h)) (ih _ hq _ q)
    · intro a xs h d' h' p e; unfold rsvW at h'; cases h'; cases e
    · intro n a h d' h' p e; unfold rsvW at h'; exact hf n a h d' h' p e
    · intro x a h k d' h' p e; unfold rsvW at h'; cases h'; cases e
    · intro n d' h' p e; unfold rsvW at h'; cases h'; cases e
    · intro a vs ds h r ih d' h' p e; unfold rsvW at h'; cases h'; cases e
    · intro a ob o kvs h r ih d' h' p e; unfold rsvW at h'; cases h'; cases e
    · intro C c a dd oe fs zs m h hd r ih d' h' p e; unfold rsvW at h'; cases h'; cases e
    · intro d' h ps e; unfold rsvWs at h; cases h; cases e; exact .nil
    · intro d ds v vs r t ih iht d' h ps e
      unfold rsvWs at h
      split at h
      · next a b ha hb =>
        cases h
        unfold D.pds at e
        split at e
        · next a b ea eb => cases e; exact .cons (ih _ ha _ ea) (iht _ hb _ eb)
        · cases e
      · cases h
    all_goals (intros; trivial)
  refine ⟨fun {d v} r d' h p e => ?_, key⟩
  have := key (.cons r .nil) [d'] (by unfold rsvWs; rw [h]; rfl) [p] (by unfold D.pds; rw [e]; rfl)
  cases this with
  | cons a _ => exact a
theorem rsv_dp {g : G} {st : Store} {H : Hp} (S : SOk K mg g st H) : ∀ (n : Nat) {d : D} {v : V}, Rep K mg g d v → ∀ d', rsv st n d = some d' → ∀ p, d'.pd = some p → Dp K H v p
  | 0, d, v, r, d', h, p, e => by
    unfold rsv at h
    exact (rsvW_dp S (fun _ _ _ _ h => by cases h)).1 r d' h p e
  | n + 1, d, v, r, d', h, p, e => by
    unfold rsv at h
    refine (rsvW_dp S ?_).1 r d' h p e
    intro m a hm d2 h2 p2 e2
    split at h2
    · next ds hs =>
      obtain ⟨q, h1, h3⟩ := S.ob.get hs
      cases h3 with
      | @cell s b so =>
        have z : b = a := by
          unfold G.rs at hm
          rw [List.getElem?_map, h1] at hm
          exact Option.some.inj hm
        subst z
        cases so with
        | @ol _ _ vs hH rl =>
          have sub : ∀ (f : Nat → Option D) (ds' : List D), rsvWs f ds = some ds' → (∀ (m : Nat) (a : Addr), g.rs[m]? = some a → ∀ d', f m = some d' → ∀ p, d'.pd = some p → Dp K H (.ref a) p) → d2 = .lst ds' → Dp K H (.ref b) p2 := by
            intro f ds' h4 hf e4
            subst e4
            unfold D.pd at e2
            cases q : D.pds ds' with
            | none => rw [q] at e2; cases e2
            | some ps => rw [q] at e2; cases e2; exact .lst (SqL.of hH) ((rsvW_dp S hf).2 rl _ h4 _ q)
          cases n with
          | zero =>
            unfold rsv rsvW at h2
            cases h4 : rsvWs (fun _ => none) ds with
            | none => rw [h4] at h2; cases h2
            | some ds' => rw [h4] at h2; cases h2; exact sub _ _ h4 (fun _ _ _ _ h => by cases h) rfl
          | succ n =>
            unfold rsv rsvW at h2
            cases h4 : rsvWs (fun m => match st[m]? with | some (.cell (.ol ds)) => rsv st n (.lst ds) | _ => none) ds with
            | none => rw [h4] at h2; cases h2
            | some ds' =>
              rw [h4] at h2; cases h2
              refine sub _ _ h4 (fun m a hm d5 h5 p5 e5 => rsv_dp S (n + 1) (d := .ref m) (v := .ref a) (.ref hm) d5 ?_ p5 e5) rfl
              unfold rsv rsvW
              exact h5
    · cases h2
  termination_by n => n
theorem pdR_dp {g : G} {st : Store} {H : Hp} (S : SOk K mg g st H) {d : D} {v : V} {p : PyData} (r : Rep K mg g d v) (e : pdR st d = some p) : Dp K H v p := by
  unfold pdR at e
  split at e
  · next q hq => cases e; exact r.dp S hq
  · cases h : rsv st 3 d with
    | none => rw [h] at e; cases e
    | some d' => rw [h] at e; exact rsv_dp S 3 r d' h p e
end
/-! ### numbers -/
def addD : D → D → Store → Res D := fun x y st => match x, y with
  | .int i, .int j => .ok (.int (i + j)) st
  | .str a, .str b => if a.length + b.length ≤ sizeLine then .ok (.str (a ++ b)) st else .stuck
  | .lst xs, .lst ys => if xs.length + ys.length ≤ sizeLine then .ok (.lst (xs ++ ys)) st else .stuck
  | .tup xs, .tup ys => if xs.length + ys.length ≤ sizeLine then .ok (.tup (xs ++ ys)) st else .stuck
  | _, _ => .stuck
def addS : D → D → Store → Res Slot := fun x y st => match x, y with
  | .lst xs, .lst ys => if xs.length + ys.length ≤ sizeLine then .ok (.ol (xs ++ ys)) st else .stuck
  | _, _ => .stuck
def intD (c : Int → Int → Bool) (f : Int → Int → Int) : D → D → Store → Res D := fun x y st => match x, y with
  | .int i, .int j => if c i j = true then .ok (.int (f i j)) st else .stuck
  | _, _ => .stuck
def cmpI (f : Int → Int → Bool) : D → D → Store → Res D := fun x y st => match x, y with
  | .int i, .int j => .ok (.bl (f i j)) st
  | _, _ => .stuck
def subD := intD (fun _ _ => true) fun i j => i - j
def mulD := intD (fun i j => decide (i.natAbs.log2 + j.natAbs.log2 < 1000000)) fun i j => i * j
def modD := intD (fun _ j => decide (0 < j)) fun i j => i % j
def fdivD := intD (fun _ j => decide (0 < j) && decide (j.natAbs.log2 < 9000)) fun i j => i / j
def powD := intD (fun i j => decide (0 ≤ j) && decide (((Builtin.Int.intBits i : Nat) : Int) * j ≤ 2 ^ 27)) fun i j => i ^ j.toNat
def negD : D → Store → Res D := fun x st => match x with
  | .int i => .ok (.int (-i)) st
  | _ => .stuck
def ltD : D → D → Store → Res D := fun x y st => match x, y with
  | .int i, .int j => .ok (.bl (decide (i < j))) st
  | _, _ => .stuck
def leD := cmpI fun i j => decide (i ≤ j)
def gtD := cmpI fun i j => decide (j < i)
def geD := cmpI fun i j => decide (j ≤ i)
/-- == -/
def eqB (st : Store) : D → D → Option Bool
  | .int i, .int j => some (decide (i = j))
  | .str a, .str b => some (decide (a = b))
  | .bl a, .bl b => some (decide (a = b))
  | .non, .non => some true
  | .int _, .str _ => some false
  | .str _, .int _ => some false
  | .bl _, .str _ => some false
  | .str _, .bl _ => some false
  | .int _, .non => some false
  | .non, .int _ => some false
  | .str _, .non => some false
  | .non, .str _ => some false
  | x, y => match pdR st x, pdR st y with
    | some a, some b => if SeqAt.shaped a = true ∧ SeqAt.shaped b = true then some (PyData.eqv a b) else none
    | _, _ => none
def eqD : D → D → Store → Res D := fun x y st => match eqB st x y with
  | some b => .ok (.bl b) st
  | none => .stuck
def neD : D → D → Store → Res D := fun x y st => match eqB st x y with
  | some b => .ok (.bl (!b)) st
  | none => .stuck
/-- is, is not -/
def isB : D → D → Option Bool
  | .bl a, .bl b => some (decide (a = b))
  | x, .non => some (match x with | .non => true | _ => false)
  | _, _ => none
def isD : D → D → Store → Res D := fun x y st => match isB x y with
  | some b => .ok (.bl b) st
  | none => .stuck
def isntD : D → D → Store → Res D := fun x y st => match isB x y with
  | some b => .ok (.bl (!b)) st
  | none => .stuck
section
variable {X : Cx}
theorem o_int {f : Value → Value → Sem Value} {C : Int → Int → Prop} {c : Int → Int → Bool} {h : Int → Int → Int} (ho : OpR X f (rI C fun i j => .int (h i j))) (hc : ∀ i j, c i j = true → C i j) : Op2 X f (intD c h) :=
  .of ho fun W σ H g st x y vx vy Q S rx ry q => by
    cases rx with
    | int i => cases ry with
      | int j =>
        have q' : Post X.K X.mg (Rep X.K X.mg) W g H σ (if c i j = true then .ok (.int (h i j)) st else .stuck) Q := q
        split at q'
        · next e => exact ⟨i, j, rfl, rfl, hc i j e, q'.here (.int _) S⟩
        · exact q'.elim
      | _ => exact (q : False).elim
    | _ => exact (q : False).elim
theorem o_cmpI {f : Value → Value → Sem Value} {h : Int → Int → Bool} (ho : OpR X f (rI0 fun i j => .bl (h i j))) : Op2 X f (cmpI h) :=
  .of ho fun W σ H g st x y vx vy Q S rx ry q => by
    cases rx with
    | int i => cases ry with
      | int j => exact ⟨i, j, rfl, rfl, Post.here (R := Rep X.K X.mg) q (.bl _) S⟩
      | _ => exact (q : False).elim
    | _ => exact (q : False).elim
theorem o_sub : Op2 X (binaryOp .Sub) subD := o_int (C := fun _ _ => True) (fun pins s σ H x y v u Q I rx ry ⟨i, j, e1, e2, _, q⟩ => op_sub pins s σ H x y v u Q I rx ry ⟨i, j, e1, e2, q⟩) fun _ _ _ => trivial
theorem o_mul : Op2 X (binaryOp .Mult) mulD := o_int op_mulW fun i j h => (show i.natAbs.log2 + j.natAbs.log2 < 1000000 from of_decide_eq_true h)
theorem o_mod : Op2 X (binaryOp .Mod) modD := o_int op_mod fun i j h => of_decide_eq_true h
theorem o_fdiv : Op2 X (binaryOp .FloorDiv) fdivD := o_int op_fdivW fun i j h => by simpa [CDivW] using h
theorem o_pow : Op2 X (binaryOp .Pow) powD := o_int (C := fun i j => 0 ≤ j ∧ ((Builtin.Int.intBits i : Nat) : Int) * j ≤ 2 ^ 27) (opI fun _ _ _ _ _ _ _ hc q => PyProof.Rows.pow_int hc.1 hc.2 q) fun i j h => by simpa using h
theorem o_gt : Op2 X (compareOp .Gt) gtD := o_cmpI op_gt
theorem o_lt : Op2 X (compareOp .Lt) ltD :=
  .of op_lt fun W σ H g st x y vx vy Q S rx ry q => by
    cases rx with
    | int i => cases ry with
      | int j => exact ⟨i, j, rfl, rfl, Post.here (R := Rep X.K X.mg) q (.bl _) S⟩
      | _ => exact (q : False).elim
    | _ => exact (q : False).elim
theorem o_neg : Op1 X (unaryOp .USub) negD := fun W pins s σ H g st x vx u Q I S rx ru q => by
  cases rx with
  | int i => exact un_neg pins s σ H _ u Q I ru ⟨i, rfl, Post.here (R := Rep X.K X.mg) q (.int _) S⟩
  | _ => exact (q : False).elim
theorem add_lst {pins : List (Addr × Obj)} {s : Shared} {σ : L2.St} {H : Hp} {g : G} {st : Store} {xs ys : List D} {vx vy : V} {u w : Value} {Q : VK} (I : L2.Inv X pins σ H s) (S : SOk X.K X.mg g st H) (rx : Rep X.K X.mg g (.lst xs) vx) (ry : Rep X.K X.mg g (.lst ys) vy) (ru : RelV vx u) (rw : RelV vy w)
    (hz : xs.length + ys.length ≤ sizeLine) (q : ∀ vs p, RepL X.K X.mg g (xs ++ ys) vs → H p = none → Q (.ref p) (upd H p (.lst vs))) : wpAny (model X.prog X.w) X.A (binaryOp .Add u w) (EP X pins σ Q) X.xe s := by
  cases rx with
  | lst hx rx => cases ry with
    | lst hy ry => exact op_cat pins s σ H _ _ u w Q I ru rw ⟨_, _, _, _, rfl, rfl, S.kp _ _ hx, S.kp _ _ hy, by rw [← rx.length, ← ry.length]; exact hz, fun p hp => q _ p (rx.append ry) hp⟩
theorem o_add : Op2 X (binaryOp .Add) addD := fun W pins s σ H g st x y vx vy u w Q I S rx ry ru rw q => by
  cases x with
  | int i =>
    cases y with
    | int j => cases rx; cases ry; exact op_add pins s σ H _ _ u w Q I ru rw ⟨i, j, rfl, rfl, Post.here (R := Rep X.K X.mg) q (.int _) S⟩
    | _ => exact (q : False).elim
  | str a =>
    cases y with
    | str b =>
      have q' : Post X.K X.mg (Rep X.K X.mg) W g H σ (if a.length + b.length ≤ sizeLine then .ok (.str (a ++ b)) st else .stuck) Q := q
      split at q'
      · next e => cases rx; cases ry; exact op_add_str pins s σ H _ _ u w Q I ru rw ⟨a, b, rfl, rfl, e, q'.here (.str _) S⟩
      · exact q'.elim
    | _ => exact (q : False).elim
  | lst xs =>
    cases y with
    | lst ys =>
      have q' : Post X.K X.mg (Rep X.K X.mg) W g H σ (if xs.length + ys.length ≤ sizeLine then .ok (.lst (xs ++ ys)) st else .stuck) Q := q
      split at q'
      · next e => exact add_lst I S rx ry ru rw e fun vs p r hp => q'.newLst S r hp
      · exact q'.elim
    | _ => exact (q : False).elim
  | tup xs =>
    cases y with
    | tup ys =>
      have q' : Post X.K X.mg (Rep X.K X.mg) W g H σ (if xs.length + ys.length ≤ sizeLine then .ok (.tup (xs ++ ys)) st else .stuck) Q := q
      split at q'
      · next e =>
        cases rx with
        | tup hx rx' => cases ry with
          | tup hy ry' =>
            refine op_catA pins s σ H _ _ u w Q I ru rw ⟨_, _, _, _, rfl, rfl, S.sqT hx, S.sqT hy, by rw [← rx'.length, ← ry'.length]; exact e, fun z => ?_, fun _ z => ?_, fun _ _ p hp => q'.newTup S (rx'.append ry') hp⟩
            · subst z
              cases rx'
              exact q'.here (.tup hy ry') S
            · subst z
              cases ry'
              rw [List.append_nil] at q'
              exact q'.here (.tup hx rx') S
      · exact q'.elim
    | _ => exact (q : False).elim
  | _ => exact (q : False).elim
theorem scal_eq {pins : List (Addr × Obj)} {s : Shared} {σ : L2.St} {H : Hp} {x y : V} {u w : Value} {Q : VK} {b : Bool} (I : L2.Inv X pins σ H s) (ru : RelV x u) (rw : RelV y w) (hs : scal x y = true) (hb : decide (x = y) = b) (q : Q (.bl b) H) :
    wpAny (model X.prog X.w) X.A (compareOp .Eq u w) (EP X pins σ Q) X.xe s := op_eq pins s σ H x y u w Q I ru rw ⟨hs, by rw [hb]; exact q⟩
theorem scal_ne {pins : List (Addr × Obj)} {s : Shared} {σ : L2.St} {H : Hp} {x y : V} {u w : Value} {Q : VK} {b : Bool} (I : L2.Inv X pins σ H s) (ru : RelV x u) (rw : RelV y w) (hs : scal x y = true) (hb : decide (x = y) = b) (q : Q (.bl (!b)) H) :
    wpAny (model X.prog X.w) X.A (compareOp .NotEq u w) (EP X pins σ Q) X.xe s := op_ne pins s σ H x y u w Q I ru rw ⟨hs, by rw [hb]; exact q⟩
/-- what == is asked -/
theorem eq_cases {g : G} {st : Store} {H : Hp} (S : SOk X.K X.mg g st H) {x y : D} {vx vy : V} {b : Bool} (rx : Rep X.K X.mg g x vx) (ry : Rep X.K X.mg g y vy) (e : eqB st x y = some b) :
    (scal vx vy = true ∧ decide (vx = vy) = b) ∨ ∃ d d', Dp X.K H vx d ∧ Dp X.K H vy d' ∧ SeqAt.shaped d = true ∧ SeqAt.shaped d' = true ∧ PyData.eqv d d' = b := by
  unfold eqB at e
  split at e
  case h_13 =>
    split at e
    · next a c ea ec =>
      split at e
      · next hs => cases e; exact .inr ⟨a, c, pdR_dp S rx ea, pdR_dp S ry ec, hs.1, hs.2, rfl⟩
      · cases e
    · cases e
  all_goals
    cases rx
    cases ry
    cases e
    exact .inl ⟨rfl, by simp⟩
theorem o_eq {k : Nat} (hr : Rm k X.A) : Op2 X (compareOp .Eq) eqD := fun W pins s σ H g st x y vx vy u w Q I S rx ry ru rw q => by
  unfold eqD at q
  split at q
  · next b e =>
    rcases eq_cases S rx ry e with ⟨h1, h2⟩ | ⟨d, d', h1, h2, h3, h4, h5⟩
    · exact scal_eq I ru rw h1 h2 (q.here (.bl _) S)
    · exact op_eqD hr.room.units pins s σ H _ _ u w Q I ru rw ⟨d, d', h1, h2, h3, h4, by rw [h5]; exact q.here (.bl _) S⟩
  · exact q.elim
theorem o_ne {k : Nat} (hr : Rm k X.A) : Op2 X (compareOp .NotEq) neD := fun W pins s σ H g st x y vx vy u w Q I S rx ry ru rw q => by
  unfold neD at q
  split at q
  · next b e =>
    rcases eq_cases S rx ry e with ⟨h1, h2⟩ | ⟨d, d', h1, h2, h3, h4, h5⟩
    · exact scal_ne I ru rw h1 h2 (q.here (.bl _) S)
    · exact op_neD hr.room.units pins s σ H _ _ u w Q I ru rw ⟨d, d', h1, h2, h3, h4, by rw [h5]; exact q.here (.bl _) S⟩
  · exact q.elim
/-! ### built-ins -/
def absD : List D → Store → Res D := fun xs st => match xs with
  | [.int i] => .ok (.int (if i < 0 then -i else i)) st
  | _ => .stuck
def max2 : List D → Store → Res D := fun xs st => match xs with
  | [.int i, .int j] => .ok (.int (if j > i then j else i)) st
  | _ => .stuck
def min2 : List D → Store → Res D := fun xs st => match xs with
  | [.int i, .int j] => .ok (.int (if j < i then j else i)) st
  | _ => .stuck
def intOf : List D → Store → Res D := fun xs st => match xs with
  | [.int i] => .ok (.int i) st
  | [.bl b] => .ok (.int (if b then 1 else 0)) st
  | _ => .stuck
def lenD : List D → Store → Res D := fun xs st => match xs with
  | [.lst ds] => .ok (.int ds.length) st
  | [.tup ds] => .ok (.int ds.length) st
  | [.scr ns] => .ok (.int ns.length) st
  | [.ref n] => match st[n]? with
    | some (.cell (.ol ds)) => .ok (.int ds.length) st
    | some (.cell (.od false kvs)) => .ok (.int kvs.length) st
    | _ => .stuck
  | [.str x] => if x.length ≤ sizeLine then .ok (.int x.length) st else .stuck
  | _ => .stuck
def listOf : List D → Store → Res Slot := fun xs st => match xs with
  | [.lst ds] => .ok (.ol ds) st
  | [.tup ds] => .ok (.ol ds) st
  | [.ref n] => match st[n]? with
    | some (.cell (.ol ds)) => .ok (.ol ds) st
    | _ => .stuck
  | _ => .stuck
def tupOfD : List D → Store → Res D := fun xs st => match xs with
  | [.lst ds] => .ok (.tup ds) st
  | [.tup ds] => .ok (.tup ds) st
  | [.ref n] => match st[n]? with
    | some (.cell (.ol ds)) => .ok (.tup ds) st
    | _ => .stuck
  | _ => .stuck
theorem b_abs : OpL X (.builtin "abs") absD := .of call_abs fun W σ H g st xs vs Q S r q => by
  unfold absD at q
  split at q
  · next i =>
    obtain ⟨v, rfl, rv⟩ := r.one
    cases rv
    exact ⟨i, rfl, q.here (.int _) S⟩
  · exact q.elim
theorem b_max2 (hc : X.calm = true) : OpL X (.builtin "max") max2 := .of (call_max2 hc) fun W σ H g st xs vs Q S r q => by
  unfold max2 at q
  split at q
  · next i j =>
    obtain ⟨v, w, rfl, rv, rw⟩ := r.two
    cases rv; cases rw
    exact ⟨i, j, rfl, q.here (.int _) S⟩
  · exact q.elim
theorem b_min2 (hc : X.calm = true) : OpL X (.builtin "min") min2 := .of (call_min2 hc) fun W σ H g st xs vs Q S r q => by
  unfold min2 at q
  split at q
  · next i j =>
    obtain ⟨v, w, rfl, rv, rw⟩ := r.two
    cases rv; cases rw
    exact ⟨i, j, rfl, q.here (.int _) S⟩
  · exact q.elim
theorem b_int : OpL X (.type "int") intOf := .of call_int1 fun W σ H g st xs vs Q S r q => by
  unfold intOf at q
  split at q
  · next i =>
    obtain ⟨v, rfl, rv⟩ := r.one
    cases rv
    exact .inl ⟨i, rfl, q.here (.int _) S⟩
  · next b =>
    obtain ⟨v, rfl, rv⟩ := r.one
    cases rv
    exact .inr ⟨b, rfl, q.here (.int _) S⟩
  · exact q.elim
/-- a cell of the store -/
theorem SOk.cellAt {g : G} {st : Store} {H : Hp} {K : PySem.W.Frag} {mg : Str → Option Value} (S : SOk K mg g st H) {n : Nat} {v : V} {s : Slot} (r : Rep K mg g (.ref n) v) (e : st[n]? = some (.cell s)) :
    ∃ a, v = .ref a ∧ g.m[n]? = some (a, [a]) ∧ SlotOk K mg g H s (some (.ref a)) [a] := by
  cases r with
  | @ref _ a h =>
    obtain ⟨p, h1, h2⟩ := S.ob.get e
    cases h2 with
    | @cell s b so =>
      have : b = a := by
        unfold G.rs at h
        rw [List.getElem?_map, h1] at h
        exact Option.some.inj h
      subst this
      exact ⟨b, rfl, h1, so⟩
theorem RepD.lenK {g : G} {K : PySem.W.Frag} {mg : Str → Option Value} : ∀ {kvs : List (DK × D)} {zs : List (Key × V)}, RepD K mg g kvs (.dK zs) → kvs.length = zs.length
  | _, _, .nilK => rfl
  | _, _, .consK _ t => by simp [RepD.lenK t]
theorem b_len : OpL X (.builtin "len") lenD := fun W pins s σ H g st xs vs us Q I S r ru q => by
  unfold lenD at q
  split at q
  · obtain ⟨v, rfl, rv⟩ := r.one
    cases rv with
    | lst h rl => exact call_len pins s σ H _ us Q I ru ⟨_, _, rfl, .inl ⟨_, SqL.of (S.kp _ _ h), rfl⟩, by rw [← rl.length]; exact q.here (.int _) S⟩
  · obtain ⟨v, rfl, rv⟩ := r.one
    cases rv with
    | tup h rl => exact call_len pins s σ H _ us Q I ru ⟨_, _, rfl, .inr ⟨_, S.sqT h, rfl⟩, by rw [← rl.length]; exact q.here (.int _) S⟩
  · next ns =>
    obtain ⟨v, rfl, rv⟩ := r.one
    cases rv with
    | scr h => exact call_len pins s σ H _ us Q I ru ⟨_, ns.length, rfl, .inl ⟨_, S.sqL h, by rw [List.length_map]⟩, q.here (.int _) S⟩
  · next n =>
    obtain ⟨v, rfl, rv⟩ := r.one
    split at q
    · next ds e =>
      obtain ⟨a, rfl, h1, h2⟩ := S.cellAt rv e
      cases h2 with
      | ol h3 rl => exact call_len pins s σ H _ us Q I ru ⟨_, _, rfl, .inl ⟨_, SqL.of h3, rfl⟩, by rw [← rl.length]; exact q.here (.int _) S⟩
    · next kvs e =>
      obtain ⟨a, rfl, h1, h2⟩ := S.cellAt rv e
      cases h2 with
      | @od _ _ _ o h3 rd hd _ =>
        cases o with
        | dK zs => exact call_lenD pins s σ H _ us Q I ru ⟨a, zs, rfl, h3, by rw [← rd.lenK]; exact q.here (.int _) S⟩
        | _ => exact (hd : False).elim
    · exact q.elim
  · split at q
    · next hz =>
      obtain ⟨v, rfl, rv⟩ := r.one
      cases rv
      exact call_len pins s σ H _ us Q I ru ⟨_, _, rfl, ⟨hz, rfl⟩, q.here (.int _) S⟩
    · exact q.elim
  · exact q.elim
theorem b_list : OpLS X (.type "list") listOf := fun W pins s σ H g st xs vs us Q I S r ru q => by
  unfold listOf at q
  split at q
  · obtain ⟨v, rfl, rv⟩ := r.one
    cases rv with
    | lst h rl => exact call_list_of pins s σ H _ us Q I ru ⟨_, _, rfl, .inl (SqL.of (S.kp _ _ h)), fun l hl => q.newLst S rl hl⟩
  · obtain ⟨v, rfl, rv⟩ := r.one
    cases rv with
    | tup h rl => exact call_list_of pins s σ H _ us Q I ru ⟨_, _, rfl, .inr (S.sqT h), fun l hl => q.newLst S rl hl⟩
  · obtain ⟨v, rfl, rv⟩ := r.one
    split at q
    · next ds e =>
      obtain ⟨a, rfl, h1, h2⟩ := S.cellAt rv e
      cases h2 with
      | ol h3 rl => exact call_list_of pins s σ H _ us Q I ru ⟨_, _, rfl, .inl (SqL.of h3), fun l hl => q.newLst S rl hl⟩
    · exact (q : False).elim
  · exact (q : False).elim
theorem b_tuple : OpL X (.type "tuple") tupOfD := fun W pins s σ H g st xs vs us Q I S r ru q => by
  unfold tupOfD at q
  split at q
  · obtain ⟨v, rfl, rv⟩ := r.one
    cases rv with
    | lst h rl => exact call_tuple_of pins s σ H _ us Q I ru ⟨_, _, rfl, .inl ⟨SqL.of (S.kp _ _ h), fun l hl => q.newTup S rl hl⟩⟩
  · obtain ⟨v, rfl, rv⟩ := r.one
    cases rv with
    | tup h rl => exact call_tuple_of pins s σ H _ us Q I ru ⟨_, _, rfl, .inr ⟨S.sqT h, q.here (.tup h rl) S⟩⟩
  · obtain ⟨v, rfl, rv⟩ := r.one
    split at q
    · next ds e =>
      obtain ⟨a, rfl, h1, h2⟩ := S.cellAt rv e
      cases h2 with
      | ol h3 rl => exact call_tuple_of pins s σ H _ us Q I ru ⟨_, _, rfl, .inl ⟨SqL.of h3, fun l hl => q.newTup S rl hl⟩⟩
    · exact q.elim
  · exact q.elim
/-- sorted, of whole numbers -/
def intsOf : List D → Option (List Int)
  | [] => some []
  | .int i :: r => (intsOf r).map (i :: ·)
  | _ :: _ => none
def srt (ns : List Int) : List Int := ns.mergeSort fun a b => decide (a ≤ b)
def sortedD : List D → Store → Res Slot := fun xs st => match xs with
  | [x] => match (match x with | .lst ds => some ds | .ref n => (match st[n]? with | some (.cell (.ol ds)) => some ds | _ => none) | _ => none) with
    | some ds => match intsOf ds with
      | some ns => .ok (.ol ((srt ns).map .int)) st
      | none => .stuck
    | none => .stuck
  | _ => .stuck
theorem intsOf_rep {g : G} {K : PySem.W.Frag} {mg : Str → Option Value} : ∀ {ds : List D} {vs : List V} {ns : List Int}, RepL K mg g ds vs → intsOf ds = some ns → vs = ns.map V.int
  | _, _, _, .nil, e => by cases e; rfl
  | d :: ds, _, ns, .cons r t, e => by
    cases d with
    | int i =>
      have e' : (intsOf ds).map (i :: ·) = some ns := e
      cases h : intsOf ds with
      | none => rw [h] at e'; cases e'
      | some ms => rw [h] at e'; cases e'; cases r; rw [intsOf_rep t h]; rfl
    | _ => cases e
theorem rep_ints {g : G} {K : PySem.W.Frag} {mg : Str → Option Value} : ∀ ns : List Int, RepL K mg g (ns.map D.int) (ns.map V.int)
  | [] => .nil
  | n :: ns => .cons (.int n) (rep_ints ns)
theorem srt_uniq {ns ms : List Int} (h : ms.Perm ns) (s : ms.Pairwise (· ≤ ·)) : ms = srt ns := by
  have p1 : (srt ns).Perm ns := List.mergeSort_perm ns _
  have s1 : (srt ns).Pairwise (fun a b => decide (a ≤ b) = true) := List.pairwise_mergeSort (by intro a b c h1 h2; simp only [decide_eq_true_eq] at *; omega) (by intro a b; simp only [Bool.or_eq_true, decide_eq_true_eq]; omega) ns
  have s2 : (srt ns).Pairwise (· ≤ ·) := s1.imp fun {a b} h => of_decide_eq_true h
  exact (h.trans p1.symm).eq_of_pairwise (fun a b _ _ h1 h2 => Int.le_antisymm h1 h2) s s2
theorem b_sorted : OpLS X (.builtin "sorted") sortedD := fun W pins s σ H g st xs vs us Q I S r ru q => by
  unfold sortedD at q
  split at q
  · next x =>
    obtain ⟨v, rfl, rv⟩ := r.one
    split at q
    · next ds e =>
      split at q
      · next ns hn =>
        have hq : ∃ a ws, v = .ref a ∧ SqL X.K H a ws ∧ RepL X.K X.mg g ds ws := by
          cases x with
          | lst ds' =>
            cases e
            cases rv with
            | lst h rl => exact ⟨_, _, rfl, SqL.of (S.kp _ _ h), rl⟩
          | ref n =>
            have e : (match st[n]? with | some (.cell (.ol ds)) => some ds | _ => none) = some ds := e
            split at e
            · next ds2 e2 =>
              cases e
              obtain ⟨a, rfl, h1, h2⟩ := S.cellAt rv e2
              cases h2 with
              | ol h3 rl => exact ⟨_, _, rfl, SqL.of h3, rl⟩
            · cases e
          | _ => cases e
        obtain ⟨a, ws, rfl, h1, rl⟩ := hq
        have hw := intsOf_rep rl hn
        subst hw
        refine cr_sortedI pins s σ H _ us Q I ru ⟨a, ns, rfl, h1, fun ns' p hp hs hz => ?_⟩
        have e2 := srt_uniq hp hs
        subst e2
        exact q.newLst S (rep_ints _) hz
      · exact (q : False).elim
    · exact (q : False).elim
  · exact (q : False).elim
/-- repr -/
def reprD : List D → Store → Res D := fun xs st => match xs with
  | [x] => match pdR st x with
    | some d => if d.showable = true ∧ d.hasDict = false ∧ d.depth ≤ 64 ∧ d.shown.length ≤ sizeLine then .ok (.str d.shown) st else .stuck
    | none => .stuck
  | _ => .stuck
theorem wp_repr {pins : List (Addr × Obj)} {s : Shared} {σ : L2.St} {H : Hp} {v : V} {u : Value} {d : PyData} {Q : VK} {k : Nat} (hr : Rm k X.A) (I : L2.Inv X pins σ H s) (dp : Dp X.K H v d) (ru : RelV v u) (h1 : d.showable = true) (h2 : d.hasDict = false) (h3 : d.depth ≤ 64) (h4 : d.shown.length ≤ sizeLine) (q : Q (.str d.shown) H) :
    wpAny (model X.prog X.w) X.A (call (.builtin "repr") [u]) (EP X pins σ Q) X.xe s := by
  obtain ⟨as, rd⟩ := Dp.reads I d v u dp ru
  cases dp with
  | non =>
    cases ru
    unfold PyData.shown at q
    exact PySem.P.repr_of_none ⟨.str _, H, I.tok _, ⟨_, rfl⟩, q⟩
  | bl b =>
    cases ru
    unfold PyData.shown at q
    cases b with
    | true => exact PySem.P.repr_of_bool ⟨.str _, H, I.tok _, ⟨_, rfl⟩, q⟩
    | false => exact PySem.P.repr_of_bool ⟨.str _, H, I.tok _, ⟨_, rfl⟩, q⟩
  | int i =>
    obtain ⟨t, rfl⟩ := ru
    unfold PyData.shown at q
    unfold PyData.showable at h1
    exact PySem.P.repr_of_int (of_decide_eq_true h1) ⟨.str _, H, I.tok _, ⟨_, rfl⟩, q⟩
  | str x =>
    obtain ⟨t, rfl⟩ := ru
    unfold PyData.shown at q h4
    exact PySem.P.repr_of_str ⟨.str _, H, I.tok _, ⟨_, rfl⟩, q⟩ h4
  | lst h r =>
    cases ru
    have hu := hr.room.units
    exact repr_of_reads' rd h1 (fun z => by rw [h2] at z; cases z) hr.gd (by
      have : X.A.units + 16 * k + 200 < cLine := hr.room.un
      omega) (fun _ _ e => e) (fun h' u tk kp => ⟨.str _, H, I.kept kp, ⟨_, rfl⟩, q⟩) h4
  | tup h r =>
    cases ru
    exact repr_of_reads' rd h1 (fun z => by rw [h2] at z; cases z) hr.gd (by
      have : X.A.units + 16 * k + 200 < cLine := hr.room.un
      omega) (fun _ _ e => e) (fun h' u tk kp => ⟨.str _, H, I.kept kp, ⟨_, rfl⟩, q⟩) h4
theorem b_repr {k : Nat} (hr : Rm k X.A) : OpL X (.builtin "repr") reprD := fun W pins s σ H g st xs vs us Q I S r ru q => by
  unfold reprD at q
  split at q
  · next x =>
    obtain ⟨v, rfl, rv⟩ := r.one
    obtain ⟨u, rfl, ru'⟩ := vals1 ru
    split at q
    · next d e =>
      split at q
      · next hz => exact wp_repr hr I (pdR_dp S rv e) ru' hz.1 hz.2.1 hz.2.2.1 hz.2.2.2 (q.here (.str _) S)
      · exact q.elim
    · exact q.elim
  · exact q.elim
/-- isinstance of built-in classes -/
def tyName : D → Option String
  | .non => some "NoneType" | .bl _ => some "bool" | .int _ => some "int" | .str _ => some "str" | .tup _ => some "tuple" | .lst _ => some "list" | .scr _ => some "list" | _ => none
def isTy (a T : String) : Bool := a == T || (a == "bool" && T == "int")
def tyKnown : List String := ["int", "bool", "str", "tuple", "list"]
theorem isTy_ok : (["NoneType", "bool", "int", "str", "tuple", "list"].all fun a => tyKnown.all fun T => decide (kitB a T = some (isTy a T))) = true := by decide +kernel
def tyR (st : Store) : D → Option String
  | .ref n => match st[n]? with
    | some (.cell (.ol _)) => some "list"
    | _ => none
  | d => tyName d
theorem tyR_of {st : Store} {x : D} {a : String} (e : tyName x = some a) : tyR st x = some a := by cases x <;> first | exact e | cases e
def isiD : List D → Store → Res D := fun xs st => match xs with
  | [x, .ty T] => match tyR st x with
    | some a => if T ∈ tyKnown then .ok (.bl (isTy a T)) st else .stuck
    | none => .stuck
  | [x, .tup [.ty T, .ty T']] => match tyR st x with
    | some a => if T ∈ tyKnown ∧ T' ∈ tyKnown then .ok (.bl (isTy a T || isTy a T')) st else .stuck
    | none => .stuck
  | _ => .stuck
theorem tyX_of {g : G} {st : Store} {H : Hp} (S : SOk X.K X.mg g st H) {x : D} {v : V} {a : String} (r : Rep X.K X.mg g x v) (e : tyName x = some a) : TyX X.K H v (.type a) ∧ a ∈ ["NoneType", "bool", "int", "str", "tuple", "list"] := by
  cases r with
  | non => cases e; exact ⟨.base .non, by simp⟩
  | bl b => cases e; exact ⟨.base (.bl b), by simp⟩
  | int i => cases e; exact ⟨.base (.int i), by simp⟩
  | str x => cases e; exact ⟨.base (.str x), by simp⟩
  | tup h r =>
    cases e
    refine ⟨?_, by simp⟩
    exact .base (.tup (S.tupAt h).tr)
  | lst h r => cases e; exact ⟨.base (.lst (S.kp _ _ h)), by simp⟩
  | scr h =>
    cases e
    refine ⟨?_, by simp⟩
    rcases S.sqL h with (h | ⟨o, h⟩) | ⟨o, its, n, hk, hc, _⟩
    · exact .base (.lst h)
    · exact .base (.frz h)
    · exact .kList hk hc
  | _ => cases e
theorem tyX_ofR {g : G} {st : Store} {H : Hp} (S : SOk X.K X.mg g st H) {x : D} {v : V} {a : String} (r : Rep X.K X.mg g x v) (e : tyR st x = some a) : TyX X.K H v (.type a) ∧ a ∈ ["NoneType", "bool", "int", "str", "tuple", "list"] := by
  cases x with
  | ref n =>
    unfold tyR at e
    simp only at e
    split at e
    · next ds he =>
      cases e
      obtain ⟨b, rfl, _, so⟩ := S.cellAt r he
      cases so with
      | ol h _ => exact ⟨.base (.lst h), by simp⟩
    · cases e
  | _ => exact tyX_of S r e
theorem kit_of' {a T : String} (ha : a ∈ ["NoneType", "bool", "int", "str", "tuple", "list"]) (hT : T ∈ tyKnown) : kitB a T = some (isTy a T) := by
  have h := isTy_ok
  rw [List.all_eq_true] at h
  have h2 := h a ha
  rw [List.all_eq_true] at h2
  exact of_decide_eq_true (h2 T hT)
theorem b_isinstance : OpL X (.builtin "isinstance") isiD := fun W pins s σ H g st xs vs us Q I S r ru q => by
  unfold isiD at q
  split at q
  · next x T =>
    split at q
    · next a e =>
      split at q
      · next hT =>
        obtain ⟨v, w, rfl, rv, rw⟩ := r.two
        cases rw
        obtain ⟨ty, ha⟩ := tyX_ofR S rv e
        exact call_isi pins s σ H _ us Q I ru ⟨v, .ty T, .type a, .type T, _, rfl, .ty T, ty, kit_ty (kit_of' ha hT), q.here (.bl _) S⟩
      · exact q.elim
    · exact q.elim
  · next x T T' =>
    split at q
    · next a e =>
      split at q
      · next hT =>
        obtain ⟨v, w, rfl, rv, rw⟩ := r.two
        cases rw with
        | @tup p vs ds h rl =>
          obtain ⟨v1, v2, rfl, r1, r2⟩ := rl.two
          cases r1; cases r2
          obtain ⟨ty, ha⟩ := tyX_ofR S rv e
          have k1 := kit_of' ha hT.1
          have k2 := kit_of' ha hT.2
          have ka : PySem.W.kitAny X.K (.type a) [.type T, .type T'] = some (isTy a T || isTy a T') := by
            refine kitAny_cons (kit_ty k1) (fun hb => ?_) (fun hb => by rw [hb]; rfl)
            refine kitAny_cons (kit_ty k2) (fun hb' => ?_) (fun hb' => by rw [hb']; simp)
            rw [hb, hb']
            exact kitAny_nil
          have h := (S.tupAt h).tr
          exact call_isiT pins s σ H _ us Q I ru ⟨v, p, _, .type a, _, _, rfl, h, .cons (.ty T) (.cons (.ty T') .nil), ty, ka, q.here (.bl _) S⟩
      · exact q.elim
    · exact q.elim
  · exact q.elim
end
end EV
set_option Elab.async false
set_option linter.all false
set_option autoImplicit false
set_option maxRecDepth 100000
set_option maxHeartbeats 400000
/-! subscripts, slices, lists that change -/
namespace EV
open PySem PySem.Spec PyProof.Rows L2
/-! ### a tuple read backward -/
/-! ### subscripts -/
def atD (st : Store) : D → Int → Option D
  | .lst ds, i => atI ds i
  | .tup ds, i => atI ds i
  | .scr ns, i => (atI ns i).map .int
  | .str z, i => if z.length ≤ sizeLine then (atI z.cps.toList i).map fun c => .str ⟨#[c]⟩ else none
  | .ref n, i => match st[n]? with
    | some (.cell (.ol ds)) => atI ds i
    | _ => none
  | _, _ => none
/-- a dict's keys -/
def keyOf : D → Option Key
  | .int i => some (.inl i)
  | .str x => some (.inr x)
  | _ => none
def keysOf : List D → Option (List Key)
  | [] => some []
  | d :: ds => match keyOf d, keysOf ds with
    | some a, some b => some (a :: b)
    | _, _ => none
def dkOf : D → Option DK
  | .int i => some (.k (.inl i))
  | .str x => some (.k (.inr x))
  | .tup ds => (keysOf ds).map .t
  | _ => none
def dictOf (st : Store) : D → Option (List (DK × D))
  | .dct kvs => some kvs
  | .ref n => match st[n]? with
    | some (.cell (.od _ kvs)) => some kvs
    | _ => none
  | _ => none
def lkD : List (DK × D) → DK → Option D
  | [], _ => none
  | (x, d) :: r, k => if x = k then some d else lkD r k
def putD : List (DK × D) → DK → D → List (DK × D)
  | [], k, d => [(k, d)]
  | (x, e) :: r, k, d => if x = k then (x, d) :: r else (x, e) :: putD r k d
def dropD : List (DK × D) → DK → List (DK × D)
  | [], _ => []
  | (x, e) :: r, k => if x = k then dropD r k else (x, e) :: dropD r k
section
variable {K : PySem.W.Frag} {mg : Str → Option Value} {g : G}
theorem keyOf_rep {d : D} {v : V} {k : Key} (r : Rep K mg g d v) (e : keyOf d = some k) : v = kV k := by
  cases d with
  | int i => cases e; cases r; rfl
  | str x => cases e; cases r; rfl
  | _ => cases e
theorem keysOf_rep : ∀ {ds : List D} {vs : List V} {ks : List Key}, RepL K mg g ds vs → keysOf ds = some ks → vs = ks.map kV
  | _, _, _, .nil, e => by cases e; rfl
  | _, _, _, .cons r t, e => by
    unfold keysOf at e
    split at e
    · next a b ha hb =>
      cases e
      rw [keyOf_rep r ha, keysOf_rep t hb]
      rfl
    · cases e
theorem RepD.getK {x : Key} : ∀ {kvs : List (DK × D)} {zs : List (Key × V)}, RepD K mg g kvs (.dK zs) → (∀ d, lkD kvs (.k x) = some d → ∃ v, valV zs x = some v ∧ Rep K mg g d v) ∧ (lkD kvs (.k x) = none → valV zs x = none)
  | _, _, .nilK => ⟨fun d e => (nomatch e), fun _ => rfl⟩
  | _, _, .consK (x := y) (d := d0) (v := v0) (kvs := kvs) (zs := zs) r t => by
    obtain ⟨i1, i2⟩ := RepD.getK (x := x) t
    unfold lkD
    by_cases h : y = x
    · subst h
      rw [if_pos rfl, valV_pos rfl]
      exact ⟨fun d e => (by cases e; exact ⟨v0, rfl, r⟩), fun e => (nomatch e)⟩
    · rw [if_neg (by simpa using h), valV_neg (by simpa using h)]
      exact ⟨i1, i2⟩
theorem RepD.getT {x : List Key} : ∀ {kvs : List (DK × D)} {zs : List (List Key × V)}, RepD K mg g kvs (.dT zs) → (∀ d, lkD kvs (.t x) = some d → ∃ v, valV zs x = some v ∧ Rep K mg g d v) ∧ (lkD kvs (.t x) = none → valV zs x = none)
  | _, _, .nilT => ⟨fun d e => (nomatch e), fun _ => rfl⟩
  | _, _, .consT (x := y) (d := d0) (v := v0) (kvs := kvs) (zs := zs) r t => by
    obtain ⟨i1, i2⟩ := RepD.getT (x := x) t
    unfold lkD
    by_cases h : y = x
    · subst h
      rw [if_pos rfl, valV_pos rfl]
      exact ⟨fun d e => (by cases e; exact ⟨v0, rfl, r⟩), fun e => (nomatch e)⟩
    · rw [if_neg (by simpa using h), valV_neg (by simpa using h)]
      exact ⟨i1, i2⟩
theorem putK_cons {κ : Type} [DecidableEq κ] (p : κ × V) (r : List (κ × V)) (nd : ((p :: r).map (·.1)).Nodup) (k : κ) (v : V) : putK (p :: r) k v = if p.1 = k then (p.1, v) :: r else p :: putK r k v := by
  unfold putK
  by_cases h : p.1 = k
  · subst h
    have hn : ∀ q ∈ r, ¬ q.1 = p.1 := fun q hq e => by
      simp only [List.map_cons, List.nodup_cons, List.mem_map] at nd
      exact nd.1 ⟨q, hq, e⟩
    have e1 : r.map (fun kv => if kv.1 = p.1 then (kv.1, v) else kv) = r := by
      rw [List.map_congr_left (g := id) (fun q hq => by rw [if_neg (hn q hq)]; rfl), List.map_id]
    simp only [List.any_cons, decide_true, Bool.true_or, if_true, List.map_cons]
    rw [e1]
  · have h' : decide (p.1 = k) = false := decide_eq_false h
    simp only [List.any_cons, h', Bool.false_or, List.map_cons, if_neg h]
    split
    · rfl
    · rfl
theorem RepD.putK_ {x : Key} {d : D} {v : V} (rd : Rep K mg g d v) : ∀ {kvs : List (DK × D)} {zs : List (Key × V)}, RepD K mg g kvs (.dK zs) → (zs.map (·.1)).Nodup → RepD K mg g (putD kvs (.k x) d) (.dK (putK zs x v))
  | _, _, .nilK, _ => show RepD K mg g [(.k x, d)] (.dK [(x, v)]) from .consK rd .nilK
  | _, _, .consK (x := y) (d := d0) (v := v0) (kvs := kvs) (zs := zs) r t, nd => by
    rw [putK_cons _ _ nd]
    unfold putD
    by_cases h : y = x
    · subst h
      rw [if_pos rfl, if_pos rfl]
      exact .consK rd t
    · rw [if_neg (by simpa using h), if_neg (by simpa using h)]
      exact .consK r (RepD.putK_ rd t (List.nodup_cons.mp nd).2)
theorem RepD.putT_ {x : List Key} {d : D} {v : V} (rd : Rep K mg g d v) : ∀ {kvs : List (DK × D)} {zs : List (List Key × V)}, RepD K mg g kvs (.dT zs) → (zs.map (·.1)).Nodup → RepD K mg g (putD kvs (.t x) d) (.dT (putK zs x v))
  | _, _, .nilT, _ => show RepD K mg g [(.t x, d)] (.dT [(x, v)]) from .consT rd .nilT
  | _, _, .consT (x := y) (d := d0) (v := v0) (kvs := kvs) (zs := zs) r t, nd => by
    rw [putK_cons _ _ nd]
    unfold putD
    by_cases h : y = x
    · subst h
      rw [if_pos rfl, if_pos rfl]
      exact .consT rd t
    · rw [if_neg (by simpa using h), if_neg (by simpa using h)]
      exact .consT r (RepD.putT_ rd t (List.nodup_cons.mp nd).2)
theorem RepD.dropK_ {x : Key} : ∀ {kvs : List (DK × D)} {zs : List (Key × V)}, RepD K mg g kvs (.dK zs) → RepD K mg g (dropD kvs (.k x)) (.dK (dropK zs x))
  | _, _, .nilK => .nilK
  | _, _, .consK (x := y) (d := d0) (v := v0) (kvs := kvs) (zs := zs) r t => by
    have ih := RepD.dropK_ (x := x) t
    unfold dropK at ih ⊢
    unfold dropD
    by_cases h : y = x
    · subst h
      rw [if_pos rfl, List.filter_cons_of_neg (by simp)]
      exact ih
    · rw [if_neg (by simpa using h), List.filter_cons_of_pos (by simpa using h)]
      exact .consK r ih
theorem RepD.lenT : ∀ {kvs : List (DK × D)} {zs : List (List Key × V)}, RepD K mg g kvs (.dT zs) → kvs.length = zs.length
  | _, _, .nilT => rfl
  | _, _, .consT _ t => by simp [RepD.lenT t]
/-- a dict, frozen or of the store -/
theorem SOk.dictAt {st : Store} {H : Hp} (S : SOk K mg g st H) {x : D} {v : V} {kvs : List (DK × D)} (r : Rep K mg g x v) (e : dictOf st x = some kvs) : ∃ a o, v = .ref a ∧ Rd H a o ∧ RepD K mg g kvs o := by
  cases x with
  | dct k2 =>
    cases e
    cases r with
    | dct h rd => exact ⟨_, _, rfl, .inr ⟨_, S.kp _ _ h⟩, rd⟩
  | ref n =>
    have e : (match st[n]? with | some (.cell (.od _ kvs)) => some kvs | _ => none) = some kvs := e
    split at e
    · next t k2 hs =>
      cases e
      obtain ⟨a, rfl, h1, h2⟩ := S.cellAt r hs
      cases h2 with
      | od h3 rd hd _ => exact ⟨a, _, rfl, .inl h3, rd⟩
    · cases e
  | _ => cases e
/-- what it holds at a key -/
theorem SOk.dget {st : Store} {H : Hp} (S : SOk K mg g st H) {y : D} {vy : V} {kvs : List (DK × D)} {k : DK} {a : Addr} {o : HO} (ry : Rep K mg g y vy) (hk : dkOf y = some k) (ha : Rd H a o) (rd : RepD K mg g kvs o) (hs : kvs ≠ [] ∨ HO.isD (match k with | .k _ => false | .t _ => true) o) :
    ∃ ov, DGet H a vy ov ∧ (∀ d, lkD kvs k = some d → ∃ v, ov = some v ∧ Rep K mg g d v) ∧ (lkD kvs k = none → ov = none) ∨ (lkD kvs k = none) := by
  cases k with
  | k x =>
    cases rd with
    | nilT => exact ⟨none, .inr rfl⟩
    | consT _ _ =>
      refine ⟨none, .inr ?_⟩
      rename_i kvs zs _ t
      have : ∀ {kvs : List (DK × D)} {zs : List (List Key × V)}, RepD K mg g kvs (.dT zs) → lkD kvs (.k x) = none := by
        intro kvs zs t
        induction kvs generalizing zs with
        | nil => rfl
        | cons p r ih => cases t with
          | consT _ t => unfold lkD; rw [if_neg (by intro h; cases h)]; exact ih t
      unfold lkD
      rw [if_neg (by intro h; cases h)]
      exact this t
    | nilK =>
      have hv : vy = kV x := by
        cases y with
        | int i => cases hk; cases ry; rfl
        | str z => cases hk; cases ry; rfl
        | tup ds => (have hk : (keysOf ds).map DK.t = some _ := hk); cases h : keysOf ds <;> rw [h] at hk <;> cases hk
        | _ => cases hk
      subst hv
      exact ⟨none, .inl ⟨.inl ⟨[], x, ha, rfl, rfl⟩, fun d e => (nomatch e), fun _ => rfl⟩⟩
    | consK r t =>
      rename_i y0 d0 v0 kvs zs
      have hv : vy = kV x := by
        cases y with
        | int i => cases hk; cases ry; rfl
        | str z => cases hk; cases ry; rfl
        | tup ds => (have hk : (keysOf ds).map DK.t = some _ := hk); cases h : keysOf ds <;> rw [h] at hk <;> cases hk
        | _ => cases hk
      subst hv
      exact ⟨_, .inl ⟨.inl ⟨_, x, ha, rfl, rfl⟩, fun d e => (RepD.getK (.consK r t)).1 d e, fun e => (RepD.getK (.consK r t)).2 e⟩⟩
  | t xs =>
    have hv : ∃ b, vy = .ref b ∧ H b = some (.tup (xs.map kV)) := by
      cases y with
      | tup ds =>
        have hk : (keysOf ds).map DK.t = some (.t xs) := hk
        cases h : keysOf ds with
        | none => rw [h] at hk; cases hk
        | some ks =>
          rw [h] at hk
          cases hk
          cases ry with
          | tup ht rl => exact ⟨_, rfl, by rw [← keysOf_rep rl h]; exact (S.tupAt ht).tr⟩
      | _ => cases hk
    obtain ⟨b, rfl, hb⟩ := hv
    cases rd with
    | nilK => exact ⟨none, .inr rfl⟩
    | consK _ _ =>
      refine ⟨none, .inr ?_⟩
      rename_i kvs zs _ t
      have : ∀ {kvs : List (DK × D)} {zs : List (Key × V)}, RepD K mg g kvs (.dK zs) → lkD kvs (.t xs) = none := by
        intro kvs zs t
        induction kvs generalizing zs with
        | nil => rfl
        | cons p r ih => cases t with
          | consK _ t => unfold lkD; rw [if_neg (by intro h; cases h)]; exact ih t
      unfold lkD
      rw [if_neg (by intro h; cases h)]
      exact this t
    | nilT => exact ⟨none, .inl ⟨.inr ⟨[], xs, b, ha, rfl, hb, rfl⟩, fun d e => (nomatch e), fun _ => rfl⟩⟩
    | consT r t =>
      exact ⟨_, .inl ⟨.inr ⟨_, xs, b, ha, rfl, hb, rfl⟩, fun d e => (RepD.getT (.consT r t)).1 d e, fun e => (RepD.getT (.consT r t)).2 e⟩⟩
end
def ixD : D → D → Store → Res D := fun x y st => match dictOf st x with
  | some kvs => match dkOf y with
    | some k => match lkD kvs k with
      | some d => .ok d st
      | none => .stuck
    | none => .stuck
  | none => match y with
    | .int i => match atD st x i with
      | some d => .ok d st
      | none => .stuck
    | _ => .stuck
theorem atI_rep {K : PySem.W.Frag} {mg : Str → Option Value} {g : G} {ds : List D} {vs : List V} (r : RepL K mg g ds vs) {i : Int} {d : D} (e : atI ds i = some d) : ∃ v, atI vs i = some v ∧ Rep K mg g d v := by
  unfold atI at e ⊢
  rw [← r.length]
  cases q : ixN ds.length i with
  | none => rw [q] at e; cases e
  | some j =>
    rw [q] at e
    exact r.get e
section
variable {X : Cx} {W : Wi} {a b e : Expr} {fa fb : En → Store → Res D} {pos : Pos}
/-- an object of the store that is a list -/
theorem SOk.objL {K : PySem.W.Frag} {mg : Str → Option Value} {g : G} {st : Store} {H : Hp} (S : SOk K mg g st H) {n : Nat} {v : V} {ds : List D} (r : Rep K mg g (.ref n) v) (e : st[n]? = some (.cell (.ol ds))) :
    ∃ a vs, v = .ref a ∧ g.m[n]? = some (a, [a]) ∧ H a = some (.lst vs) ∧ RepL K mg g ds vs := by
  cases r with
  | @ref _ a h =>
    obtain ⟨p, h1, h2⟩ := S.ob.get e
    cases h2 with
    | @cell s b so =>
      cases so with
      | ol h3 h4 =>
        have : b = a := by
          unfold G.rs at h
          rw [List.getElem?_map, h1] at h
          exact Option.some.inj h
        subst this
        exact ⟨b, _, rfl, h1, h3, h4⟩
theorem e_ix {k : Nat} (hr : Rm k X.A) (ha : EE X W a fa) (hb : EE X W b fb) (hs : PlainIx b) : EE X W (.Subscript a b pos) (v2 ixD fa fb) :=
  ⟨fun pins s σ H Q I h => Subscript_ (two ha hb I h fun g st x y v u s2 vx vy H2 I2 S rx ry r1 r2 q => by
    unfold ixD at q
    split at q
    · next kvs hkv =>
      split at q
      · next k hk =>
        split at q
        · next d hd =>
          obtain ⟨p, o, rfl, hp, rdd⟩ := S.dictAt rx hkv
          obtain ⟨ov, h1⟩ := S.dget ry hk hp rdd (.inl (fun z => by rw [z] at hd; cases hd))
          rcases h1 with ⟨h1, h2, h3⟩ | h1
          · obtain ⟨w, rfl, rw'⟩ := h2 d hd
            cases r1
            exact tail_any (dict_typeIs I2 h1) PySem.F.slot_dict_getitem.lookup (d_getItem (by have := hr.room.un; omega) I2 h1 r2 fun w' s3 I3 r3 => ⟨w, H2, I3, r3, q.here rw' S⟩) (hs _ _)
          · rw [h1] at hd; cases hd
        · exact q.elim
      · exact q.elim
    split at q
    · next i =>
      cases ry
      split at q
      · next d hd =>
        cases x with
        | lst ds =>
          cases rx with
          | lst hx rl =>
            obtain ⟨z, h1, h2⟩ := atI_rep rl hd
            exact ix_list a b pins s2 σ H2 _ _ v u Q I2 r1 r2 ⟨_, _, _, z, rfl, rfl, SqL.of (S.kp _ _ hx), h1, q.here h2 S⟩ (hs _ _)
        | tup ds =>
          cases rx with
          | tup hx rl =>
            obtain ⟨z, h1, h2⟩ := atI_rep rl hd
            exact ix_tup a b pins s2 σ H2 _ _ v u Q I2 r1 r2 ⟨_, _, _, z, rfl, rfl, S.sqT hx, h1, q.here h2 S⟩ (hs _ _)
        | scr ns =>
          cases rx with
          | scr hx =>
            have hd' : (atI ns i).map D.int = some d := hd
            cases hz : atI ns i with
            | none => rw [hz] at hd'; cases hd'
            | some z =>
              rw [hz] at hd'
              cases hd'
              have h1 : atI (ns.map V.int) i = some (.int z) := by
                unfold atI at hz ⊢
                rw [List.length_map]
                cases q2 : ixN ns.length i with
                | none => rw [q2] at hz; cases hz
                | some j =>
                  rw [q2] at hz
                  show (ns.map V.int)[j]? = _
                  rw [List.getElem?_map, (show ns[j]? = some z from hz)]
                  rfl
              exact ix_list a b pins s2 σ H2 _ _ v u Q I2 r1 r2 ⟨_, _, _, _, rfl, rfl, S.sqL hx, h1, q.here (.int z) S⟩ (hs _ _)
        | str z =>
          cases rx
          have hd' : (if z.length ≤ sizeLine then (atI z.cps.toList i).map fun c => D.str ⟨#[c]⟩ else none) = some d := hd
          split at hd'
          · next hz =>
            cases hq : atI z.cps.toList i with
            | none => rw [hq] at hd'; cases hd'
            | some c =>
              rw [hq] at hd'
              cases hd'
              exact ix_str a b pins s2 σ H2 _ _ v u Q I2 r1 r2 ⟨_, _, c, rfl, rfl, hz, hq, q.here (.str _) S⟩ (hs _ _)
          · cases hd'
        | ref n =>
          have hd' : (match st[n]? with | some (.cell (.ol ds)) => atI ds i | _ => none) = some d := hd
          split at hd'
          · next ds he =>
            obtain ⟨p, vs, rfl, _, h3, h4⟩ := S.objL rx he
            obtain ⟨z, h1, h2⟩ := atI_rep h4 hd'
            exact ix_list a b pins s2 σ H2 _ _ v u Q I2 r1 r2 ⟨_, _, _, z, rfl, rfl, SqL.of h3, h1, q.here h2 S⟩ (hs _ _)
          · cases hd'
        | _ => exact nomatch hd
      · exact q.elim
    · exact q.elim)⟩
/-- x[e], x an own list at slot i -/
def vIxO (i : Nat) (fb : En → Store → Res D) : En → Store → Res D := fun env st => match env[i]? with
  | some (.ol ds) => (fb env st).bind fun y st => match y with
    | .int k => match atI ds k with
      | some d => .ok d st
      | none => .stuck
    | _ => .stuck
  | _ => .stuck
/-- len(x), x an own list at slot i -/
def vLenO (i : Nat) : En → Store → Res D := fun env st => match env[i]? with
  | some (.ol ds) => .ok (.int ds.length) st
  | _ => .stuck
/-! ### slices -/
def cutD {α : Type} (xs : List α) (lo hi : Option Int) : List α := (xs.drop (HT.sIx xs.length 0 lo)).take (HT.sIx xs.length xs.length hi - HT.sIx xs.length 0 lo)
def vNoP : En → Store → Res (Option Int) := fun _ st => .ok none st
def vSoP (f : En → Store → Res D) : En → Store → Res (Option Int) := fun env st => (f env st).bind fun d st => match d with
  | .int i => .ok (some i) st
  | _ => .stuck
def slF (d : D) (lo hi : Option Int) : Option D := match d with
  | .lst ds => some (.lst (cutD ds lo hi))
  | .tup ds => some (.tup (cutD ds lo hi))
  | _ => none
def vSlice (fa : En → Store → Res D) (fl fh : En → Store → Res (Option Int)) : En → Store → Res D := fun env st => (fa env st).bind fun x st => (fl env st).bind fun lo st => (fh env st).bind fun hi st => match slF x lo hi with
  | some d => .ok d st
  | none => .stuck
/-- x[::-1] -/
def revF : D → Store → Res D := fun x st => match x with
  | .lst ds => .ok (.lst ds.reverse) st
  | .tup ds => .ok (.tup ds.reverse) st
  | _ => .stuck
/-! ### calls of built-ins -/
variable {es : List Expr} {f : En → Store → Res (List D)} {x : Str} {p : Pos}
theorem e_callB {id : String} {F : List D → Store → Res D} (hc : OpL X (.builtin id) F) (hg : Gl X x) (hm : X.mg x = none) (hv : bootBuiltins x = some (.builtin id)) (ha : AE X W (e :: es) f) (hn : x ≠ "__name__" := by decide) (hdb : (x == ("__debug__" : Str)) = false := by decide)
    (he : starEach (e :: es) X.env = (false, eval e X.env) :: starEach es X.env := by rfl) (hpl : (backTo pos (starEach es X.env)).any (·.1) = false := by rfl) : EE X W (.Call (.Name x p) (e :: es) [] pos) (vA F f) := by
  refine ⟨fun pins s σ H Q I h => ?_⟩
  obtain ⟨g, env, st, os, hv', ho, hS, h⟩ := h
  refine wpAny_Call_Name_kw (ld_blt I hg hm hv ?_ hn hdb)
  refine PyProof.Rows.callWith_builtin1 (thn (ha.run pos pins s σ H _ I ⟨g, env, st, os, hv', ho, hS, Post.bind h⟩) fun us s1 ⟨vs, H1, I1, r1, q1⟩ => ?_) he hpl
  obtain ⟨g1, ds, st1, s1', rd, S1, h1⟩ := q1
  exact hc W pins s1 σ H1 g1 st1 ds vs us Q I1 S1 rd r1 h1
theorem e_callTy {T : String} {F : List D → Store → Res D} (hc : OpL X (.type T) F) (hg : Gl X x) (hm : X.mg x = none) (hv : bootBuiltins x = some (.type T)) (ha : AE X W (e :: es) f) (hn : x ≠ "__name__" := by decide) (hdb : (x == ("__debug__" : Str)) = false := by decide)
    (he : starEach (e :: es) X.env = (false, eval e X.env) :: starEach es X.env := by rfl) (hpl : (backTo pos (starEach es X.env)).any (·.1) = false := by rfl) : EE X W (.Call (.Name x p) (e :: es) [] pos) (vA F f) := by
  refine ⟨fun pins s σ H Q I h => ?_⟩
  obtain ⟨g, env, st, os, hv', ho, hS, h⟩ := h
  refine wpAny_Call_Name_kw (ld_blt I hg hm hv ?_ hn hdb)
  refine PyProof.Rows.callWith_type1 (thn (ha.run pos pins s σ H _ I ⟨g, env, st, os, hv', ho, hS, Post.bind h⟩) fun us s1 ⟨vs, H1, I1, r1, q1⟩ => ?_) he hpl
  obtain ⟨g1, ds, st1, s1', rd, S1, h1⟩ := q1
  exact hc W pins s1 σ H1 g1 st1 ds vs us Q I1 S1 rd r1 h1
theorem s_callB {id : String} {F : List D → Store → Res Slot} (hc : OpLS X (.builtin id) F) (hg : Gl X x) (hm : X.mg x = none) (hv : bootBuiltins x = some (.builtin id)) (ha : AE X W (e :: es) f) (hn : x ≠ "__name__" := by decide) (hdb : (x == ("__debug__" : Str)) = false := by decide)
    (he : starEach (e :: es) X.env = (false, eval e X.env) :: starEach es X.env := by rfl) (hpl : (backTo pos (starEach es X.env)).any (·.1) = false := by rfl) : SE X W (.Call (.Name x p) (e :: es) [] pos) (vA F f) := by
  refine ⟨fun pins s σ H Q I h => ?_⟩
  obtain ⟨g, env, st, os, hv', ho, hS, h⟩ := h
  refine wpAny_Call_Name_kw (ld_blt I hg hm hv ?_ hn hdb)
  refine PyProof.Rows.callWith_builtin1 (thn (ha.run pos pins s σ H _ I ⟨g, env, st, os, hv', ho, hS, Post.bindS h⟩) fun us s1 ⟨vs, H1, I1, r1, q1⟩ => ?_) he hpl
  obtain ⟨g1, ds, st1, s1', rd, S1, h1⟩ := q1
  exact hc W pins s1 σ H1 g1 st1 ds vs us Q I1 S1 rd r1 h1
end
end EV
set_option Elab.async false
set_option linter.all false
set_option autoImplicit false
set_option maxRecDepth 100000
set_option maxHeartbeats 400000
/-! lists that change; what is walked; comprehensions -/
namespace EV
open PySem PySem.Spec PyProof.Rows L2
section
variable {K : PySem.W.Frag} {mg : Str → Option Value} {g : G} {H : Hp} {os : List Addr} {σ : L2.St} {st : Store}
/-- an own list is written -/
theorem EnvOk.write {env : En} {i : Nat} {ds ds' : List D} {a : Addr} {vs' : List V} (he : EnvOk K mg g H env σ os) (nd : os.Nodup) (hi : env[i]? = some (.ol ds)) (hσ : σ[i]? = some (some (.ref a))) (r : RepL K mg g ds' vs') :
    ∃ os', EnvOk K mg g (upd H a (.lst vs')) (env.set i (.ol ds')) σ os' ∧ (∀ x ∈ os', x ∈ os) ∧ os'.Nodup ∧ a ∈ os := by
  obtain ⟨o, l, os1, os2, h1, h2, h3, h4⟩ := he.at_ hi
  rw [hσ] at h1
  cases h1
  cases h2 with
  | @ol _ _ vs ha rl =>
    have e1 := h4 .un (some (.ref a)) [] (.un _)
    have hset : σ.set i (some (V.ref a)) = σ := by
      obtain ⟨hi, hv⟩ := List.getElem?_eq_some_iff.mp hσ
      rw [← hv, List.set_getElem_self]
    rw [hset] at e1
    subst h3
    simp only [List.nodup_append, List.mem_append, List.mem_singleton] at nd
    have hne : ∀ x ∈ os1 ++ ([] ++ os2), x ≠ a := fun x hx z => by
      subst z
      simp only [List.nil_append, List.mem_append] at hx
      rcases hx with hx | hx
      · exact nd.2.2 x hx x (.inl rfl) rfl
      · exact nd.2.1.2.2 x rfl x hx rfl
    have e2 := e1.step (Ext.refl g) (H' := upd H a (.lst vs')) fun x hx => upd_ne (hne x hx)
    obtain ⟨os', q1, q2, q3⟩ := e2.set (s := .ol ds') (o := some (.ref a)) (l := [a]) (.ol upd_same r) i
    rw [hset] at q1
    refine ⟨os', by rw [List.set_set] at q1; exact q1, fun x hx => ?_, q3 ?_, by simp⟩
    · have := q2 x hx
      simp only [List.mem_append, List.mem_singleton, List.nil_append] at this ⊢
      rcases this with z | z | z
      · exact .inr (.inl z)
      · exact .inl z
      · exact .inr (.inr z)
    · rw [List.nodup_append]
      refine ⟨by simp, ?_, fun x hx y hy => ?_⟩
      · simp only [List.nil_append, List.nodup_append]
        exact ⟨nd.1, nd.2.1.2.1, fun x hx y hy => nd.2.2 x hx y (.inr hy)⟩
      · have : x = a := by simpa using hx
        subst this
        exact fun e => hne y hy e.symm
theorem SOk.wrO {a : Addr} {o : HO} (S : SOk K mg g st H) (hk : g.kp a = none) (hf : a ∉ g.fp) : SOk K mg g st (upd H a o) := by
  refine ⟨fun x u h => ?_, S.nd, S.fr, fun x hx => ?_, S.ob.step (Ext.refl g) fun x hx => upd_ne (by rintro rfl; exact hf hx)⟩
  · rw [upd_ne (by rintro rfl; rw [hk] at h; cases h)]
    exact S.kp x u h
  · rw [upd_ne (by rintro rfl; exact hf hx)]
    exact S.th x hx
theorem Step.wrO {a : Addr} {o : HO} (hm : a ∈ os) (th : H a ≠ none) {os' : List Addr} (hs : ∀ x ∈ os', x ∈ os) : Step g H os g (upd H a o) os' :=
  ⟨Ext.refl g, fun x _ _ ho => upd_ne (by rintro rfl; exact ho hm), fun x hx => by
    by_cases e : x = a
    · subst e; rw [upd_same]; simp
    · rw [upd_ne e]; exact hx, fun _ h => .inl h, fun _ h => .inl h, fun x h => .inl (hs x h)⟩
theorem StOk.set {H' : Hp} {o' : SObj} : ∀ {st : Store} {m : List (Addr × List Addr)} {n : Nat} {p : Addr × List Addr}, StOk K mg g H st m → m[n]? = some p → (fpOf m).Nodup → (∀ x, x ∉ p.2 → H' x = H x) → ObOk K mg g H' o' p → StOk K mg g H' (st.set n o') m
  | _, _, _, _, .nil, e, _, _, _ => by simp at e
  | _, _, 0, p, .cons (p := q) (m := m) h t, e, nd, k, ob => by
    have : q = p := by simpa using e
    subst this
    rw [fpOf_cons, List.nodup_append] at nd
    exact .cons ob (t.step (Ext.refl g) fun x hx => k x fun z => nd.2.2 x z x hx rfl)
  | _, _, n + 1, p, .cons (p := q) (m := m) h t, e, nd, k, ob => by
    rw [fpOf_cons, List.nodup_append] at nd
    have e' : m[n]? = some p := by simpa using e
    refine .cons (h.step (Ext.refl g) fun x hx => k x fun z => nd.2.2 x hx x ?_ rfl) (StOk.set t e' nd.2.1 k ob)
    unfold fpOf
    rw [List.mem_flatMap]
    exact ⟨p, List.mem_of_getElem? e', z⟩
/-- a list of the store is written -/
theorem SOk.wrR {n : Nat} {a : Addr} {ds' : List D} {vs' : List V} (S : SOk K mg g st H) (hm : g.m[n]? = some (a, [a])) (r : RepL K mg g ds' vs') :
    SOk K mg g (st.set n (.cell (.ol ds'))) (upd H a (.lst vs')) ∧ Step g H [] g (upd H a (.lst vs')) [] := by
  have hf : a ∈ g.fp := List.mem_flatMap.mpr ⟨(a, [a]), List.mem_of_getElem? hm, by simp⟩
  have hk := S.fr a hf
  refine ⟨⟨fun x u h => ?_, S.nd, S.fr, fun x hx => ?_, S.ob.set hm S.nd (fun x hx => upd_ne (by simpa using hx)) (.cell (.ol upd_same r))⟩, ⟨Ext.refl g, fun x _ hx _ => upd_ne (by rintro rfl; exact hx hf), fun x hx => ?_, fun _ h => .inl h, fun _ h => .inl h, fun _ h => nomatch h⟩⟩
  · rw [upd_ne (by rintro rfl; rw [hk] at h; cases h)]
    exact S.kp x u h
  · by_cases e : x = a
    · subst e; rw [upd_same]; simp
    · rw [upd_ne e]; exact S.th x hx
  · by_cases e : x = a
    · subst e; rw [upd_same]; simp
    · rw [upd_ne e]; exact hx
end
section
variable {X : Cx} {W : Wi} {e o : Expr} {fe fo fi : En → Store → Res D} {pos : Pos}
/-- x.append(e), x an own list at slot i -/
def sApp (i : Nat) (fe : En → Store → Res D) : En → Store → ResS := fun env st => match env[i]? with
  | some (.ol ds) => (fe env st).go env fun d st => if ds.length < sizeLine then .nx (env.set i (.ol (ds ++ [d]))) st else .stuck
  | _ => .stuck
/-- o.append(e), o an object of the store -/
def appR (o d : D) (st : Store) : Option Store := match o with
  | .ref n => match st[n]? with
    | some (.cell (.ol ds)) => if ds.length < sizeLine then some (st.set n (.cell (.ol (ds ++ [d])))) else none
    | _ => none
  | _ => none
def DK.isT : DK → Bool
  | .k _ => false
  | .t _ => true
def setR (o i d : D) (st : Store) : Option Store := match o with
  | .ref n => match st[n]? with
    | some (.cell (.ol ds)) => match i with
      | .int k => match ixN ds.length k with
        | some j => some (st.set n (.cell (.ol (ds.set j d))))
        | none => none
      | _ => none
    | some (.cell (.od t kvs)) => match dkOf i with
      | some k => if k.isT = t ∧ kvs.length < sizeLine then some (st.set n (.cell (.od t (putD kvs k d)))) else none
      | none => none
    | _ => none
  | _ => none
theorem nodup_put {k : DK} {d : D} : ∀ {kvs : List (DK × D)}, (kvs.map (·.1)).Nodup → ((putD kvs k d).map (·.1)).Nodup ∧ ∀ x ∈ (putD kvs k d).map (·.1), x ∈ kvs.map (·.1) ∨ x = k
  | [], _ => ⟨by simp [putD], fun x hx => .inr (by simpa [putD] using hx)⟩
  | (x, e) :: r, nd => by
    have nd' := List.nodup_cons.mp nd
    obtain ⟨i1, i2⟩ := nodup_put (k := k) (d := d) nd'.2
    unfold putD
    by_cases h : x = k
    · rw [if_pos h]
      exact ⟨nd, fun y hy => .inl hy⟩
    · rw [if_neg h]
      refine ⟨List.nodup_cons.mpr ⟨fun z => (i2 x z).elim nd'.1 h, i1⟩, fun y hy => ?_⟩
      rcases List.mem_cons.mp hy with rfl | hy
      · exact .inl List.mem_cons_self
      · exact (i2 y hy).imp_left (List.mem_cons_of_mem _)
theorem nodup_drop {k : DK} : ∀ {kvs : List (DK × D)}, (kvs.map (·.1)).Nodup → ((dropD kvs k).map (·.1)).Nodup ∧ ∀ x ∈ (dropD kvs k).map (·.1), x ∈ kvs.map (·.1)
  | [], _ => ⟨by simp [dropD], fun x hx => by simp [dropD] at hx⟩
  | (x, e) :: r, nd => by
    have nd' := List.nodup_cons.mp nd
    obtain ⟨i1, i2⟩ := nodup_drop (k := k) nd'.2
    unfold dropD
    by_cases h : x = k
    · rw [if_pos h]
      exact ⟨i1, fun y hy => List.mem_cons_of_mem _ (i2 y hy)⟩
    · rw [if_neg h]
      refine ⟨List.nodup_cons.mpr ⟨fun z => nd'.1 (i2 x z), i1⟩, fun y hy => ?_⟩
      rcases List.mem_cons.mp hy with rfl | hy
      · exact List.mem_cons_self
      · exact List.mem_cons_of_mem _ (i2 y hy)
theorem RepD.ndK {g : G} {K : PySem.W.Frag} {mg : Str → Option Value} {kvs : List (DK × D)} {zs : List (Key × V)} (r : RepD K mg g kvs (.dK zs)) (nd : (kvs.map (·.1)).Nodup) : (zs.map (·.1)).Nodup := by
  have e : ∀ {kvs : List (DK × D)} {zs : List (Key × V)}, RepD K mg g kvs (.dK zs) → kvs.map (·.1) = (zs.map (·.1)).map DK.k := by
    intro kvs
    induction kvs with
    | nil => intro zs r; cases r; rfl
    | cons p t ih => intro zs r; cases r with
      | consK _ q => simp [ih q]
  rw [e r] at nd
  exact List.Pairwise.of_map DK.k (fun a b h z => h (by rw [z])) nd
theorem RepD.ndT {g : G} {K : PySem.W.Frag} {mg : Str → Option Value} {kvs : List (DK × D)} {zs : List (List Key × V)} (r : RepD K mg g kvs (.dT zs)) (nd : (kvs.map (·.1)).Nodup) : (zs.map (·.1)).Nodup := by
  have e : ∀ {kvs : List (DK × D)} {zs : List (List Key × V)}, RepD K mg g kvs (.dT zs) → kvs.map (·.1) = (zs.map (·.1)).map DK.t := by
    intro kvs
    induction kvs with
    | nil => intro zs r; cases r; rfl
    | cons p t ih => intro zs r; cases r with
      | consT _ q => simp [ih q]
  rw [e r] at nd
  exact List.Pairwise.of_map DK.t (fun a b h z => h (by rw [z])) nd
section
variable {K : PySem.W.Frag} {mg : Str → Option Value} {g : G} {H : Hp} {st : Store}
/-- a cell of the store is written -/
theorem SOk.wrC {n : Nat} {a : Addr} {o : HO} {sl : Slot} (S : SOk K mg g st H) (hm : g.m[n]? = some (a, [a])) (so : SlotOk K mg g (upd H a o) sl (some (.ref a)) [a]) :
    SOk K mg g (st.set n (.cell sl)) (upd H a o) ∧ Step g H [] g (upd H a o) [] := by
  have hf : a ∈ g.fp := List.mem_flatMap.mpr ⟨(a, [a]), List.mem_of_getElem? hm, by simp⟩
  have hk := S.fr a hf
  refine ⟨⟨fun x u h => ?_, S.nd, S.fr, fun x hx => ?_, S.ob.set hm S.nd (fun x hx => upd_ne (by simpa using hx)) (.cell so)⟩, ⟨Ext.refl g, fun x _ hx _ => upd_ne (by rintro rfl; exact hx hf), fun x hx => ?_, fun _ h => .inl h, fun _ h => .inl h, fun _ h => nomatch h⟩⟩
  · rw [upd_ne (by rintro rfl; rw [hk] at h; cases h)]
    exact S.kp x u h
  · by_cases e : x = a
    · subst e; rw [upd_same]; simp
    · rw [upd_ne e]; exact S.th x hx
  · by_cases e : x = a
    · subst e; rw [upd_same]; simp
    · rw [upd_ne e]; exact hx
theorem key_rep {y : D} {vy : V} {k : DK} (S : SOk K mg g st H) (ry : Rep K mg g y vy) (hk : dkOf y = some k) : match k with | .k x => vy = kV x | .t xs => ∃ b, vy = .ref b ∧ H b = some (.tup (xs.map kV)) := by
  cases y with
  | int i => cases hk; cases ry; rfl
  | str z => cases hk; cases ry; rfl
  | tup ds =>
    have hk : (keysOf ds).map DK.t = some k := hk
    cases h : keysOf ds with
    | none => rw [h] at hk; cases hk
    | some ks =>
      rw [h] at hk
      cases hk
      cases ry with
      | tup ht rl => exact ⟨_, rfl, by rw [← keysOf_rep rl h]; exact (S.tupAt ht).tr⟩
  | _ => cases hk
/-- an entry is put -/
theorem SOk.putAt {y d : D} {vy vd : V} {k : DK} {kvs : List (DK × D)} {t : Bool} {n : Nat} {a : Addr} (S : SOk K mg g st H) (hm : g.m[n]? = some (a, [a])) (so : SlotOk K mg g H (.od t kvs) (some (.ref a)) [a]) (ry : Rep K mg g y vy) (rd : Rep K mg g d vd) (hk : dkOf y = some k) (ht : k.isT = t) (hz : kvs.length < sizeLine) :
    ∃ o, DPut H a vy vd (upd H a o) ∧ SOk K mg g (st.set n (.cell (.od t (putD kvs k d)))) (upd H a o) ∧ Step g H [] g (upd H a o) [] := by
  cases so with
  | @od _ _ _ o h3 rr hd nd =>
    have q := key_rep S ry hk
    cases k with
    | k x =>
      have q : vy = kV x := q
      subst q
      cases t with
      | true => cases ht
      | false =>
        cases o with
        | dK zs =>
          have r2 := RepD.putK_ (x := x) rd rr (rr.ndK nd)
          obtain ⟨S2, s2⟩ := S.wrC (o := .dK (putK zs x vd)) hm (.od upd_same r2 (show HO.isD false (.dK _) from trivial) (nodup_put nd).1)
          exact ⟨_, DPut.k h3 (by rw [← rr.lenK]; exact hz), S2, s2⟩
        | _ => exact (hd : False).elim
    | t xs =>
      obtain ⟨b, rfl, hb⟩ := q
      cases t with
      | false => cases ht
      | true =>
        cases o with
        | dT zs =>
          have r2 := RepD.putT_ (x := xs) rd rr (rr.ndT nd)
          obtain ⟨S2, s2⟩ := S.wrC (o := .dT (putK zs xs vd)) hm (.od upd_same r2 (show HO.isD true (.dT _) from trivial) (nodup_put nd).1)
          exact ⟨_, DPut.t h3 hb (by rw [← rr.lenT]; exact hz), S2, s2⟩
        | _ => exact (hd : False).elim
end
/-- a store into a list or a dict -/
def rSetA : TSet := fun o i v H Q => rSetL o i v H Q ∨ ∃ a H4, o = .ref a ∧ DPut H a i v H4 ∧ Q H4
theorem set_any {X : Cx} {k : Nat} (hr : Rm k X.A) : PSet X rSetA := by
  intro pins s σ H o i v ov iv u Q I ro ri rv h
  rcases h with h | ⟨a, H4, rfl, hp, q⟩
  · exact set_list pins s σ H o i v ov iv u Q I ro ri rv h
  · cases ro
    exact d_setItem (by have := hr.room.un; omega) I hp ri rv fun s' I' => ⟨H4, I', q⟩
/-- o[i] = .., o an object of the store -/
def gSubR (fo fi : En → Store → Res D) : D → En → Store → ResS := fun d env st => (fo env st).go env fun o st => (fi env st).go env fun i st => match setR o i d st with
  | some st => .nx env st
  | none => .stuck
theorem g_subR {k : Nat} (hr : Rm k X.A) {i : Expr} (ho : EE X W o fo) (hi : EE X W i fi)
    (ha : ∀ v, assign (.Subscript o i pos) X.env v = (do
      let ov ← holding [v] (eval o X.env)
      let iv ← holding [v, ov] (eval i X.env)
      standAt pos
      holding [v, ov, iv] (setItem ov iv v)
      release [v, ov, iv] []) := by intro _; rfl) : GE X W (.Subscript o i pos) (gSubR fo fi) := by
  refine ⟨fun pins s σ H v u Q I r h => ?_⟩
  obtain ⟨g, env, st, os, hv, hos, hS, d, rd, h⟩ := h
  refine (pg_sub ho hi (set_any hr) ha).run pins s σ H v u Q I r ⟨g, env, st, os, hv, hos, hS, (PostSt.go hv hos h).imp fun ov H1 q => ?_⟩
  obtain ⟨g1, od, st1, s1, ro, S1, e1, o1, h1⟩ := q
  refine ⟨g1, env, st1, os, e1, o1, S1, (PostSt.go e1 o1 h1).imp fun iv H2 q => ?_⟩
  obtain ⟨g2, id, st2, s2, ri, S2, e2, o2, h2⟩ := q
  have ro2 := ro.ext s2.ext
  have rd2 := (rd.ext s1.ext).ext s2.ext
  split at h2
  · next st3 hset =>
    unfold setR at hset
    split at hset
    · next n =>
      split at hset
      · next ds hn =>
        split at hset
        · next k =>
          cases ri
          split at hset
          · next j hj =>
            cases hset
            obtain ⟨a, vs, rfl, hm, hH, rl⟩ := S2.objL ro2 hn
            refine .inl ⟨a, vs, k, j, rfl, rfl, hH, by rw [← rl.length]; exact hj, ?_⟩
            obtain ⟨S3, s3⟩ := S2.wrR hm (rl.set rd2 j)
            exact h2 σ g2 _ os (s3.frame os) (e2.step' o2 s3) (o2.step s3) S3
          · cases hset
        · cases hset
      · next t kvs hn =>
        split at hset
        · next k hk =>
          split at hset
          · next hz =>
            cases hset
            obtain ⟨a, rfl, hm, so⟩ := S2.cellAt ro2 hn
            obtain ⟨o', p, S3, s3⟩ := S2.putAt hm so ri rd2 hk hz.1 hz.2
            exact .inr ⟨a, _, rfl, p, h2 σ g2 _ os (s3.frame os) (e2.step' o2 s3) (o2.step s3) S3⟩
          · cases hset
        · cases hset
      · cases hset
    · cases hset
  · exact (h2 : False).elim
/-! ### what is walked -/
theorem walks_list {K : PySem.W.Frag} {mg : Str → Option Value} {g : G} {a : Addr} {ds : List D} {vs : List V} (h : g.kp a = some (.lst vs)) (r : RepL K mg g ds vs) : Walks K mg (Itl K a) g ds := by
  intro g1 H st x S
  have hs : SqL K H a vs := SqL.of (S.kp _ _ (x.kp _ _ h))
  refine ⟨fun i hi => ⟨vs, hs, by rw [← r.length]; exact hi⟩, fun i d hd => ?_⟩
  obtain ⟨v, h1, h2⟩ := r.get hd
  refine ⟨⟨vs, v, hs, h1⟩, fun y H' hy => ?_⟩
  obtain ⟨rfl, hy⟩ := hy
  have := hy vs hs
  rw [h1] at this
  cases this
  exact ⟨g1, Step.refl, h2.ext x, S⟩
theorem walks_tup {K : PySem.W.Frag} {mg : Str → Option Value} {g : G} {a : Addr} {ds : List D} {vs : List V} (h : TupAt K g.kp a vs) (r : RepL K mg g ds vs) : Walks K mg (Itt K a) g ds := by
  intro g1 H st x S
  have hs : SqT K H a vs := S.sqT (tupAt_ext x h)
  refine ⟨fun i hi => ⟨vs, hs, by rw [← r.length]; exact hi⟩, fun i d hd => ?_⟩
  obtain ⟨v, h1, h2⟩ := r.get hd
  refine ⟨⟨vs, v, hs, h1⟩, fun y H' hy => ?_⟩
  obtain ⟨rfl, hy⟩ := hy
  have := hy vs hs
  rw [h1] at this
  cases this
  exact ⟨g1, Step.refl, h2.ext x, S⟩
def rngD (lo : Int) (n : Nat) : List D := (List.range n).map fun (i : Nat) => .int (lo + (i : Int))
theorem walks_rng {K : PySem.W.Frag} {mg : Str → Option Value} {g : G} {lo : Int} {n : Nat} : Walks K mg (Itr lo n) g (rngD lo n) := by
  intro g1 H st x S
  refine ⟨fun i hi => by show n ≤ i; simpa [rngD] using hi, fun i d hd => ?_⟩
  have hi : i < n := by
    have := (List.getElem?_eq_some_iff.mp hd).1
    simpa [rngD] using this
  have e : d = .int (lo + (i : Int)) := by
    simp [rngD, hi] at hd
    exact hd.symm
  subst e
  refine ⟨hi, fun y H' hy => ?_⟩
  obtain ⟨rfl, rfl⟩ := hy
  exact ⟨g1, Step.refl, .int _, S⟩
def seqF : D → Store → Res (List D) := fun d st => match d with
  | .lst ds => .ok ds st
  | .tup ds => .ok ds st
  | _ => .stuck
theorem PostI.bind {K : PySem.W.Frag} {mg : Str → Option Value} {α β : Type} {R' : G → α → β → Prop} {g : G} {H : Hp} {σ : L2.St} {r : Res α} {k : α → Store → Res (List D)} {R : It → Hp → Prop} (h : PostI K mg W g H σ (r.bind k) R) :
    Post K mg R' W g H σ r (Mid K mg R' g H fun g1 H1 a st1 => PostI K mg W g1 H1 σ (k a st1) R) := by
  cases r with
  | ok a st =>
    intro v g2 H2 s2 r S
    refine ⟨g2, a, st, s2, r, S, ?_⟩
    have h' : PostI K mg W g H σ (k a st) R := h
    show PostI K mg W g2 H2 σ (k a st) R
    generalize k a st = q at h' ⊢
    cases q with
    | ok ds st' => exact fun J g3 H3 s3 S3 w => h' J g3 H3 (s2.trans s3) S3 w
    | er x st' => exact fun g3 H3 s3 S3 => h' g3 H3 (s2.trans s3) S3
    | stuck => exact h'
  | er e st => exact h
  | stuck => exact h
theorem i_seq {tg : Expr} (he : EE X W e fe) : IE X W tg e (v1 seqF fe) := by
  refine ⟨fun pins s σ H R I h => ?_⟩
  obtain ⟨g, env, st, os, hv, ho, hS, h⟩ := h
  refine thn (he.run pins s σ H _ I ⟨g, env, st, os, hv, ho, hS, PostI.bind h⟩) fun v s1 ⟨x, H1, I1, r1, q1⟩ => ?_
  obtain ⟨g1, d, st1, s1', rd, S1, h1⟩ := q1
  cases d with
  | lst ds =>
    cases rd with
    | @lst a vs _ hx rl =>
      cases r1
      obtain ⟨its, rv, p, hz⟩ := I1.list (SqL.of (S1.kp _ _ hx))
      refine wpAny_pyIter_list p.isList ?_
      refine ⟨s1.heap.objs.size, [s1.heap.objs.size], _, _, H1, rfl, I1.kept (t' := s1.toks) fun b o e => Heap.get?_push_of_some _ e, turn_list a _, ⟨_, Heap.get?_push_size _ rfl, rfl, rfl⟩, fun b hb => ?_, h1 _ g1 H1 Step.refl S1 (walks_list hx rl)⟩
      have e : b = s1.heap.objs.size := by simpa using hb
      subst e
      exact I1.fpOk (Nat.le_refl _) (I1.hok.fresh (Nat.le_refl _))
  | tup ds =>
    cases rd with
    | @tup a vs _ hx rl =>
      cases r1
      obtain ⟨its, rv, p, hz⟩ := I1.tuple (S1.sqT hx)
      refine wpAny_pyIter_tuple (show s1.heap.IsTuple a its.toArray from p) ?_
      refine ⟨s1.heap.objs.size, [s1.heap.objs.size], _, _, H1, rfl, I1.kept (t' := s1.toks) fun b o e => Heap.get?_push_of_some _ e, turn_tuple a _, ⟨_, Heap.get?_push_size _ rfl, rfl, rfl⟩, fun b hb => ?_, h1 _ g1 H1 Step.refl S1 (walks_tup hx rl)⟩
      have e : b = s1.heap.objs.size := by simpa using hb
      subst e
      exact I1.fpOk (Nat.le_refl _) (I1.hok.fresh (Nat.le_refl _))
  | _ => exact (h1 : False).elim
def rng1F : List D → Store → Res (List D) := fun ds st => match ds with
  | [.int j] => if -(2 ^ 62) ≤ j ∧ j < 2 ^ 62 then .ok (rngD 0 j.toNat) st else .stuck
  | _ => .stuck
theorem i_range1 {tg : Expr} {fa : En → Store → Res (List D)} {p : Pos} (hg : Gl X "range") (hm : X.mg "range" = none) (ha : AE X W [e] fa) (hs : starEach [e] X.env = [(false, eval e X.env)] := by rfl) : IE X W tg (.Call (.Name "range" p) [e] [] pos) (vA rng1F fa) := by
  refine ⟨fun pins s σ H R I h => ?_⟩
  obtain ⟨g, env, st, os, hv, ho, hS, h⟩ := h
  refine (pi_range1 hg hm ha hs).run pins s σ H R I ⟨g, env, st, os, hv, ho, hS, (PostI.bind h).imp fun vs H1 q => ?_⟩
  obtain ⟨g1, ds, st1, s1, r, S1, h1⟩ := q
  unfold rng1F at h1
  split at h1
  · next j =>
    obtain ⟨v, rfl, rv⟩ := r.one
    cases rv
    split at h1
    · next hb => exact ⟨j, rfl, hb.1, hb.2, h1 _ g1 H1 Step.refl S1 walks_rng⟩
    · exact (h1 : False).elim
  · exact (h1 : False).elim
end
end EV
set_option Elab.async false
set_option linter.all false
set_option autoImplicit false
set_option maxRecDepth 100000
set_option maxHeartbeats 400000
/-! patterns; comprehensions -/
namespace EV
open PySem PySem.Spec PyProof.Rows L2
inductive Pat where
  | n (i : Nat)
  | t (ps : List Pat)
mutual
def Pat.bind : Pat → D → Option (List (Nat × D))
  | .n i, d => some [(i, d)]
  | .t ps, .tup ds => Pat.binds ps ds
  | .t _, _ => none
def Pat.binds : List Pat → List D → Option (List (Nat × D))
  | [], [] => some []
  | p :: ps, d :: ds => match Pat.bind p d, Pat.binds ps ds with
    | some a, some b => some (a ++ b)
    | _, _ => none
  | _, _ => none
end
mutual
def Pat.tg (K : PySem.W.Frag) : Pat → TG
  | .n i => gName i
  | .t ps => gTup K ps.length (Pat.tgs K ps)
def Pat.tgs (K : PySem.W.Frag) : List Pat → TGs
  | [] => gNil
  | p :: ps => gCons (Pat.tg K p) (Pat.tgs K ps)
end
def setAll {α β : Type} (f : α → β) (l : List β) : List (Nat × α) → List β
  | [] => l
  | (i, d) :: r => setAll f (l.set i (f d)) r
theorem setAll_append {α β : Type} {f : α → β} : ∀ {a b : List (Nat × α)} {l : List β}, setAll f l (a ++ b) = setAll f (setAll f l a) b
  | [], _, _ => rfl
  | _ :: r, b, l => by show setAll f _ (r ++ b) = _; rw [setAll_append]; rfl
abbrev bindE (env : En) (bs : List (Nat × D)) : En := setAll Slot.vl env bs
abbrev bindS (σ : L2.St) (bs : List (Nat × V)) : L2.St := setAll (fun v => some v) σ bs
/-- what is bound -/
inductive RepB (K : PySem.W.Frag) (mg : Str → Option Value) (g : G) : List (Nat × D) → List (Nat × V) → Prop
  | nil : RepB K mg g [] []
  | cons {i : Nat} {d : D} {v : V} {bs : List (Nat × D)} {ws : List (Nat × V)} : Rep K mg g d v → RepB K mg g bs ws → RepB K mg g ((i, d) :: bs) ((i, v) :: ws)
section
variable {K : PySem.W.Frag} {mg : Str → Option Value} {g : G} {H : Hp} {st : Store}
theorem RepB.append : ∀ {a b : List (Nat × D)} {c d : List (Nat × V)}, RepB K mg g a c → RepB K mg g b d → RepB K mg g (a ++ b) (c ++ d)
  | _, _, _, _, .nil, s => s
  | _, _, _, _, .cons r t, s => .cons r (t.append s)
mutual
theorem Pat.reads (S : SOk K mg g st H) : ∀ (p : Pat) (d : D) (v : V) (bs : List (Nat × D)), Pat.bind p d = some bs → Rep K mg g d v → ∃ ws, RepB K mg g bs ws ∧ ∀ (σ : L2.St) (Q : L2.St → Hp → Prop), Q (bindS σ ws) H → Pat.tg K p v σ H Q
  | .n i, d, v, bs, e, r => by
    unfold Pat.bind at e
    cases e
    exact ⟨[(i, v)], .cons r .nil, fun σ Q q => by unfold Pat.tg; exact q⟩
  | .t ps, .tup ds, v, bs, e, r => by
    unfold Pat.bind at e
    cases r with
    | @tup a vs _ h rl =>
      obtain ⟨ws, h1, h2⟩ := Pat.readss S ps ds vs bs e rl
      refine ⟨ws, h1, fun σ Q q => ?_⟩
      unfold Pat.tg
      exact ⟨a, vs, rfl, S.sqT h, by rw [← rl.length]; exact (Pat.binds_length ps ds bs e).symm, h2 σ Q q⟩
  | .t _, .non, _, _, e, _ => by unfold Pat.bind at e; cases e
  | .t _, .bl _, _, _, e, _ => by unfold Pat.bind at e; cases e
  | .t _, .int _, _, _, e, _ => by unfold Pat.bind at e; cases e
  | .t _, .str _, _, _, e, _ => by unfold Pat.bind at e; cases e
  | .t _, .lst _, _, _, e, _ => by unfold Pat.bind at e; cases e
  | .t _, .dct _, _, _, e, _ => by unfold Pat.bind at e; cases e
  | .t _, .st _, _, _, e, _ => by unfold Pat.bind at e; cases e
  | .t _, .ref _, _, _, e, _ => by unfold Pat.bind at e; cases e
  | .t _, .fn _, _, _, e, _ => by unfold Pat.bind at e; cases e
  | .t _, .ty _, _, _, e, _ => by unfold Pat.bind at e; cases e
  | .t _, .scr _, _, _, e, _ => by unfold Pat.bind at e; cases e
theorem Pat.readss (S : SOk K mg g st H) : ∀ (ps : List Pat) (ds : List D) (vs : List V) (bs : List (Nat × D)), Pat.binds ps ds = some bs → RepL K mg g ds vs → ∃ ws, RepB K mg g bs ws ∧ ∀ (σ : L2.St) (Q : L2.St → Hp → Prop), Q (bindS σ ws) H → Pat.tgs K ps vs σ H Q
  | [], [], vs, bs, e, r => by
    unfold Pat.binds at e
    cases e
    cases r
    exact ⟨[], .nil, fun σ Q q => by unfold Pat.tgs; exact ⟨rfl, q⟩⟩
  | p :: ps, d :: ds, vs, bs, e, r => by
    unfold Pat.binds at e
    split at e
    · next a b ea eb =>
      cases e
      cases r with
      | @cons _ _ v vr r1 rr =>
        obtain ⟨w1, h1, h2⟩ := Pat.reads S p d v a ea r1
        obtain ⟨w2, h3, h4⟩ := Pat.readss S ps ds vr b eb rr
        refine ⟨w1 ++ w2, h1.append h3, fun σ Q q => ?_⟩
        unfold Pat.tgs
        refine ⟨v, vr, rfl, h2 σ _ (h4 _ Q ?_)⟩
        unfold bindS at q ⊢
        rw [setAll_append] at q
        exact q
    · cases e
  | [], _ :: _, _, _, e, _ => by unfold Pat.binds at e; cases e
  | _ :: _, [], _, _, e, _ => by unfold Pat.binds at e; cases e
theorem Pat.binds_length : ∀ (ps : List Pat) (ds : List D) (bs : List (Nat × D)), Pat.binds ps ds = some bs → ps.length = ds.length
  | [], [], _, _ => rfl
  | p :: ps, d :: ds, bs, e => by
    unfold Pat.binds at e
    split at e
    · next a b ea eb => simp [Pat.binds_length ps ds b eb]
    · cases e
  | [], _ :: _, _, e => by unfold Pat.binds at e; cases e
  | _ :: _, [], _, e => by unfold Pat.binds at e; cases e
end
mutual
def Pat.slots : Pat → List Nat
  | .n i => [i]
  | .t ps => Pat.slotss ps
def Pat.slotss : List Pat → List Nat
  | [] => []
  | p :: ps => Pat.slots p ++ Pat.slotss ps
end
mutual
theorem Pat.bind_slots : ∀ (p : Pat) (d : D) (bs : List (Nat × D)), Pat.bind p d = some bs → bs.map (·.1) = p.slots
  | .n i, d, bs, e => by unfold Pat.bind at e; cases e; rfl
  | .t ps, .tup ds, bs, e => by unfold Pat.bind at e; unfold Pat.slots; exact Pat.binds_slots ps ds bs e
  | .t _, .non, _, e => by unfold Pat.bind at e; cases e
  | .t _, .bl _, _, e => by unfold Pat.bind at e; cases e
  | .t _, .int _, _, e => by unfold Pat.bind at e; cases e
  | .t _, .str _, _, e => by unfold Pat.bind at e; cases e
  | .t _, .lst _, _, e => by unfold Pat.bind at e; cases e
  | .t _, .dct _, _, e => by unfold Pat.bind at e; cases e
  | .t _, .st _, _, e => by unfold Pat.bind at e; cases e
  | .t _, .ref _, _, e => by unfold Pat.bind at e; cases e
  | .t _, .fn _, _, e => by unfold Pat.bind at e; cases e
  | .t _, .ty _, _, e => by unfold Pat.bind at e; cases e
  | .t _, .scr _, _, e => by unfold Pat.bind at e; cases e
theorem Pat.binds_slots : ∀ (ps : List Pat) (ds : List D) (bs : List (Nat × D)), Pat.binds ps ds = some bs → bs.map (·.1) = Pat.slotss ps
  | [], [], _, e => by unfold Pat.binds at e; cases e; rfl
  | p :: ps, d :: ds, bs, e => by
    unfold Pat.binds at e
    split at e
    · next a b ea eb =>
      cases e
      unfold Pat.slotss
      rw [List.map_append, Pat.bind_slots p d a ea, Pat.binds_slots ps ds b eb]
    · cases e
  | [], _ :: _, _, e => by unfold Pat.binds at e; cases e
  | _ :: _, [], _, e => by unfold Pat.binds at e; cases e
end
theorem RepB.slots : ∀ {bs : List (Nat × D)} {ws : List (Nat × V)}, RepB K mg g bs ws → bs.map (·.1) = ws.map (·.1)
  | _, _, .nil => rfl
  | _, _, .cons _ t => by simp [RepB.slots t]
theorem wipe_set {σ : L2.St} {i : Nat} {o : Option V} : ∀ {vs : List Nat}, i ∈ vs → wipe (σ.set i o) vs = wipe σ vs
  | v :: vs, h => by
    unfold wipe
    by_cases e : i = v
    · subst e
      by_cases hm : i ∈ vs
      · rw [wipe_set hm]
      · have comm : ∀ (ws : List Nat), i ∉ ws → wipe (σ.set i o) ws = (wipe σ ws).set i o := by
          intro ws
          induction ws with
          | nil => intro _; rfl
          | cons w ws ih =>
            intro hw
            simp only [List.mem_cons, not_or] at hw
            show (wipe (σ.set i o) ws).set w none = ((wipe σ ws).set w none).set i o
            rw [ih hw.2, List.set_comm _ _ hw.1]
        rw [comm vs hm, List.set_set]
    · have hm : i ∈ vs := by simpa [e] using h
      rw [wipe_set hm]
theorem wipe_in {σ : L2.St} {i : Nat} : ∀ {vs : List Nat}, i ∈ vs → i < σ.length → (L2.wipe σ vs)[i]? = some none
  | v :: vs, h, hl => by
    unfold L2.wipe
    by_cases e : v = i
    · subst e
      rw [List.getElem?_set_self (by rw [wipe_length]; exact hl)]
    · rw [List.getElem?_set_ne e]
      exact wipe_in (by simpa [Ne.symm e] using h) hl
theorem wipe_idem {σ : L2.St} {vs : List Nat} : L2.wipe (L2.wipe σ vs) vs = L2.wipe σ vs := by
  apply List.ext_getElem?
  intro i
  by_cases hm : i ∈ vs
  · by_cases hl : i < σ.length
    · rw [wipe_in hm (by rw [wipe_length]; exact hl), wipe_in hm hl]
    · rw [List.getElem?_eq_none (by simp only [wipe_length]; omega), List.getElem?_eq_none (by simp only [wipe_length]; omega)]
  · rw [wipe_out hm]
theorem wipe_bind {vs : List Nat} : ∀ {ws : List (Nat × V)} {σ : L2.St}, (∀ i ∈ ws.map (·.1), i ∈ vs) → wipe (bindS σ ws) vs = wipe σ vs
  | [], _, _ => rfl
  | (i, v) :: r, σ, h => by
    show wipe (bindS (σ.set i (some v)) r) vs = _
    rw [wipe_bind fun j hj => h j (List.mem_cons_of_mem _ hj), wipe_set (h i List.mem_cons_self)]
def wipeE (env : En) : List Nat → En
  | [] => env
  | v :: vs => (wipeE env vs).set v .un
theorem EnvOk.wipe {env : En} {σ : L2.St} {os : List Addr} (h : EnvOk K mg g H env σ os) (ho : OsOk g H os) : ∀ vs : List Nat, ∃ os', EnvOk K mg g H (wipeE env vs) (L2.wipe σ vs) os' ∧ (∀ a ∈ os', a ∈ os) ∧ os'.Nodup
  | [] => ⟨os, h, fun _ h => h, ho.nd⟩
  | v :: vs => by
    obtain ⟨os1, h1, h2, h3⟩ := EnvOk.wipe h ho vs
    obtain ⟨os2, q1, q2, q3⟩ := h1.set (s := .un) (o := none) (l := []) (.un _) v
    exact ⟨os2, q1, fun a ha => h2 a (by simpa using q2 a ha), q3 (by simpa using h3)⟩
theorem EnvOk.binds {bs : List (Nat × D)} {ws : List (Nat × V)} (r : RepB K mg g bs ws) : ∀ {env : En} {σ : L2.St} {os : List Addr}, EnvOk K mg g H env σ os → OsOk g H os → ∃ os', EnvOk K mg g H (bindE env bs) (bindS σ ws) os' ∧ (∀ a ∈ os', a ∈ os) ∧ OsOk g H os' := by
  induction r with
  | nil => exact fun {env σ os} h ho => ⟨os, h, fun _ h => h, ho⟩
  | @cons i d v bs ws r t ih =>
    intro env σ os h ho
    obtain ⟨os1, q1, q2, q3⟩ := h.set (s := .vl d) (o := some v) (l := []) (.vl r) i
    have o1 := ho.sub (fun a ha => by simpa using q2 a ha) (q3 (by simpa using ho.nd))
    obtain ⟨os2, p1, p2, p3⟩ := ih q1 o1
    exact ⟨os2, p1, fun a ha => by simpa using q2 a (p2 a ha), p3⟩
end
/-- a pattern as a target of a for, an assignment -/
def gPat (p : Pat) : D → En → Store → ResS := fun d env st => match Pat.bind p d with
  | some bs => .nx (bindE env bs) st
  | none => .stuck
theorem g_pat {X : Cx} {W : Wi} {tg : Expr} {p : Pat} (h : PG X tg (Pat.tg X.K p)) : GE X W tg (gPat p) := by
  refine ⟨fun pins s σ H v u Q I r hw => ?_⟩
  obtain ⟨g, env, st, os, hv, ho, hS, d, rd, hw⟩ := hw
  unfold gPat at hw
  split at hw
  · next bs hb =>
    obtain ⟨ws, h1, h2⟩ := Pat.reads hS p d v bs hb rd
    refine h.run pins s σ H v u Q I r (h2 σ Q ?_)
    obtain ⟨os', q1, q2, q3⟩ := EnvOk.binds h1 hv ho
    exact hw _ g H os' (Step.refl.sub q2) q1 q3 hS
  · exact (hw : False).elim
theorem pat_n {X : Cx} {pos : Pos} (i : Nat) {x : Str} (hN : X.N.Nodup) (hi : X.N[i]? = some x) (hx : Loc X.env.scope x) (hf : X.fn x = true ∨ X.env.scope.names.lookup x = some .local := by first | exact .inl rfl | exact .inr rfl | assumption) : PG X (.Name x pos) (Pat.tg X.K (.n i)) := by
  unfold Pat.tg
  exact pg_name hN hi hx hf
theorem pats_nil {X : Cx} : PGs X [] (Pat.tgs X.K []) := by
  unfold Pat.tgs
  exact pgs_nil
theorem pats_cons {X : Cx} {e : Expr} {es : List Expr} {p : Pat} {ps : List Pat} (h1 : PG X e (Pat.tg X.K p)) (h2 : PGs X es (Pat.tgs X.K ps))
    (hs : (assignEach (e :: es) X.env).map (·.2) = assign e X.env :: (assignEach es X.env).map (·.2) := by rfl) : PGs X (e :: es) (Pat.tgs X.K (p :: ps)) := by
  unfold Pat.tgs
  exact pgs_cons h1 h2 hs
theorem pat_t {X : Cx} {es : List Expr} {j : Nat} {pos : Pos} {ps : List Pat} (hc : X.calm = true) (h : PGs X es (Pat.tgs X.K ps))
    (hn : (assignEach es X.env).length = ps.length := by rfl) (hst : (assignEach es X.env).findIdx? (·.1) = none := by rfl) : PG X (.Tuple es j pos) (Pat.tg X.K (.t ps)) := by
  unfold Pat.tg
  exact pg_tup hc h hn hst
/-! ### comprehensions -/
/-- no error leaves a comprehension -/
def Res.bind0 {α β : Type} (r : Res α) (f : α → Store → Res β) : Res β := match r with
  | .ok a st => f a st
  | _ => .stuck
def lcL (p : Pat) (tt : En → Store → Res Bool) (te : En → Store → Res D) (env : En) : List D → Store → Res (List D)
  | [], st => .ok [] st
  | d :: ds, st => match Pat.bind p d with
    | none => .stuck
    | some bs => (tt (bindE env bs) st).bind0 fun c st => if c = true then (te (bindE env bs) st).bind0 fun y st => (lcL p tt te env ds st).bind0 fun ys st => .ok (y :: ys) st else lcL p tt te env ds st
def vLc (fi : En → Store → Res (List D)) (p : Pat) (vs : List Nat) (tt : En → Store → Res Bool) (te : En → Store → Res D) : En → Store → Res Slot := fun env st => (fi env st).bind fun ds st => (lcL p tt te (wipeE env vs) ds st).bind0 mkLst
def ttYes : En → Store → Res Bool := fun _ st => .ok true st
theorem Post.bind0 {K : PySem.W.Frag} {mg : Str → Option Value} {α β γ : Type} {R : G → α → β → Prop} {g : G} {H : Hp} {σ : L2.St} {r : Res α} {N : α → Store → Prop} (h : match r with | .ok a st => N a st | _ => False) :
    Post K mg R W0 g H σ r (Mid K mg R g H fun _ _ a st1 => N a st1) := by
  cases r with
  | ok a st => exact fun v g2 H2 s2 r S => ⟨g2, a, st, s2, r, S, h⟩
  | er e st => exact h.elim
  | stuck => exact h.elim
theorem bind0_ok {α β : Type} {r : Res α} {f : α → Store → Res β} {y : β} {st' : Store} (h : r.bind0 f = .ok y st') : ∃ a st, r = .ok a st ∧ f a st = .ok y st' := by
  cases r with
  | ok a st => exact ⟨a, st, rfl, h⟩
  | er e st => cases h
  | stuck => cases h
section
variable {X : Cx} {W : Wi}
abbrev BlkE (X : Cx) (scope : Scope) (e : Expr) (f : En → Store → Res D) : Prop := ∀ (s : Shared) (H : Hp) (C : Addr) (cl : List (Str × Addr)) (fp : List Addr), EE (X.blk s H scope (compEnvC scope cl C X.env) fp) W0 e f
/-- the tests of a comprehension -/
abbrev TsE (X : Cx) (scope : Scope) (ifs : List Expr) (f : En → Store → Res Bool) : Prop := ∀ (s : Shared) (H : Hp) (C : Addr) (cl : List (Str × Addr)) (fp : List Addr), PTs (X.blk s H scope (compEnvC scope cl C X.env) fp) ifs (tT X.K X.mg W0 f)
theorem ts_nil {scope : Scope} : TsE X scope [] ttYes := fun s H C cl fp => by
  refine ⟨fun pins s σ H Q I h => ?_⟩
  obtain ⟨g, env, st, os, hv, ho, hS, h⟩ := h
  exact pts_nil.run pins s σ H Q I (h.here rfl hS)
theorem ts_one {scope : Scope} {c : Expr} {f : En → Store → Res Bool} (h : ∀ (s : Shared) (H : Hp) (C : Addr) (cl : List (Str × Addr)) (fp : List Addr), BE (X.blk s H scope (compEnvC scope cl C X.env) fp) W0 c f) : TsE X scope [c] f := fun s H C cl fp => pts_one (h s H C cl fp)
/-- a state of a comprehension's loop: the list at D holds acc -/
def LcAt (X : Cx) (g1 : G) (env : En) (σw : L2.St) (D0 : Addr) (Q : VK) (p : Pat) (tt : En → Store → Res Bool) (te : En → Store → Res D) (fin : List D → Store → Prop) (ds : List D) (H : Hp) : Prop :=
  ∃ g st os acc vs, Ext g1 g ∧ EnvOk X.K X.mg g H env σw os ∧ OsOk g H os ∧ SOk X.K X.mg g st H ∧ H D0 = some (.lst vs) ∧ RepL X.K X.mg g acc vs ∧ g.kp D0 = none ∧ D0 ∉ g.fp ∧ D0 ∉ os ∧
    ∃ ys st', lcL p tt te env ds st = .ok ys st' ∧ (acc ++ ys).length ≤ sizeLine ∧
      ∀ g' H' vs', Step g H [D0] g' H' [D0] → H' D0 = some (.lst vs') → RepL X.K X.mg g' (acc ++ ys) vs' → g'.kp D0 = none → D0 ∉ g'.fp → SOk X.K X.mg g' st' H' → Q (.ref D0) H'
theorem osOk_one {g : G} {H : Hp} {a : Addr} {o : HO} (h : H a = some o) (hk : g.kp a = none) (hf : a ∉ g.fp) (hw : Ow (some o) := by exact True.intro) : OsOk g H [a] := by
  have e : ∀ b ∈ [a], b = a := fun b hb => by simpa using hb
  exact ⟨by simp, fun b hb => by rw [e b hb, h]; exact hw, fun b hb => by rw [e b hb]; exact hk, fun b hb => by rw [e b hb]; exact hf⟩
theorem lc_reads {elt tg iter : Expr} {ifs : List Expr} {scope : Scope} {own : List (Str × Nat)} {p : Pat} {fi : En → Store → Res (List D)} {tt : En → Store → Res Bool} {te : En → Store → Res D} {σ : L2.St} {H : Hp} {Q : VK} (hp : ∀ i ∈ p.slots, i ∈ own.map (·.2))
    (h : tSl X.K X.mg W (vLc fi p (own.map (·.2)) tt te) σ H Q) : tLc (tI X.K X.mg W fi) (Pat.tg X.K p) (tT X.K X.mg W0 tt) (tE X.K X.mg W0 te) (own.map (·.2)) σ H Q := by
  obtain ⟨g, env, st, os, hv, ho, hS, h⟩ := h
  refine ⟨g, env, st, os, hv, ho, hS, ?_⟩
  have h' : PostS X.K X.mg W g H σ ((fi env st).bind fun ds st => (lcL p tt te (wipeE env (own.map (·.2))) ds st).bind0 mkLst) Q := h
  show PostI _ _ _ _ _ _ (fi env st) _
  generalize fi env st = r at h' ⊢
  cases r with
  | stuck => exact h'
  | er x st1 => exact h'
  | ok ds st1 =>
    intro J g1 H1 s1 S1 wk D0 hD0
    have h2 : PostS X.K X.mg W g1 H1 σ ((lcL p tt te (wipeE env (own.map (·.2))) ds st1).bind0 mkLst) Q := PostS.step (r := (lcL p tt te (wipeE env (own.map (·.2))) ds st1).bind0 mkLst) h' s1
    generalize hl : lcL p tt te (wipeE env (own.map (·.2))) ds st1 = r2 at h2
    cases r2 with
    | stuck => exact (h2 : False).elim
    | er x st2 => exact (h2 : False).elim
    | ok ys st2 =>
      have h3 : PostS X.K X.mg W g1 H1 σ (if ys.length ≤ sizeLine then .ok (.ol ys) st2 else .stuck) Q := h2
      split at h3
      · next hz =>
        have hv1 := hv.step' ho s1
        have ho1 := ho.step s1
        obtain ⟨osw, e1, e2, e3⟩ := hv1.wipe ho1 (own.map (·.2))
        have ho2 := ho1.sub e2 e3
        obtain ⟨S2, s2, o2⟩ := S1.newO (o := .lst []) hD0
        have hDos : D0 ∉ osw := fun z => (ho2.th D0 z).ne hD0
        refine ⟨fun i m H => m = ds.length - i ∧ i ≤ ds.length ∧ LcAt X g1 (wipeE env (own.map (·.2))) (L2.wipe σ (own.map (·.2))) D0 Q p tt te (fun _ _ => True) (ds.drop i) H, ⟨_, rfl, Nat.zero_le _, g1, st1, osw, [], [], Ext.refl _, e1.step (Ext.refl _) fun a ha => upd_ne (by rintro rfl; exact hDos ha), ⟨ho2.nd, fun a ha => by rw [upd_ne (by rintro rfl; exact hDos ha)]; exact ho2.th a ha, ho2.kp, ho2.fp⟩, S2, upd_same, .nil, S1.kpn hD0, S1.fpn hD0, hDos, ys, st2, by rw [List.drop_zero]; exact hl, by simpa using hz, fun g' H' vs' st' hd' rl kp fp S' => ?_⟩, ?_⟩
        · exact h3 (.ref D0) g' H' [D0] (s2.trans st') (osOk_one hd' kp fp) (.ol hd' (by simpa using rl)) S'
        · rintro i m H2 ⟨rfl, hle, g2, st3, os2, acc, vs, x2, hv2, ho2, S2, hD, rl, kp, fp, hDo, ys2, st4, hl2, hz2, fin⟩
          obtain ⟨w1, w2⟩ := wk g2 H2 st3 x2 S2
          by_cases hlt : i < ds.length
          · refine .inr ⟨(w2 i ds[i] (by simp [hlt])).1, LcAt X g1 (wipeE env (own.map (·.2))) (L2.wipe σ (own.map (·.2))) D0 Q p tt te (fun _ _ => True) (ds.drop (i + 1)), fun H' n => ⟨_, by omega, rfl, hlt, n⟩, fun x H3 y => ?_⟩
            obtain ⟨g3, s3, r3, S3⟩ := (w2 i ds[i] (by simp [hlt])).2 x H3 y
            rw [List.drop_eq_getElem_cons hlt] at hl2
            unfold lcL at hl2
            split at hl2
            · cases hl2
            · next bs hb =>
              obtain ⟨ws, b1, b2⟩ := Pat.reads S3 p ds[i] x bs hb r3
              refine b2 _ _ ?_
              have hsl : ∀ j ∈ ws.map (·.1), j ∈ own.map (·.2) := fun j hj => hp j (by rw [← Pat.bind_slots p _ bs hb, b1.slots]; exact hj)
              refine ⟨(wipe_bind hsl).trans wipe_idem, ?_⟩
              have hv3 := hv2.step' ho2 s3
              have ho3 := ho2.step s3
              obtain ⟨os3, q1, q2, q3⟩ := EnvOk.binds b1 hv3 ho3
              obtain ⟨c, st5, ht, hl3⟩ := bind0_ok hl2
              have x3 := x2.trans s3.ext
              have kD : ∀ {g' : G} {H' : Hp}, Step g3 H3 [] g' H' [] → H' D0 = some (.lst vs) ∧ g'.kp D0 = none ∧ D0 ∉ g'.fp := fun {g' H'} s' => by
                have z := s3.trans s'
                refine ⟨(z.fr D0 (by rw [hD]; simp) fp (by simp)).trans hD, ?_, fun hm => ?_⟩
                · cases e : g'.kp D0 with
                  | none => rfl
                  | some u =>
                    rcases z.nk D0 (by rw [e]; simp) with q | q | q | q | q
                    · exact absurd kp q
                    · rw [hD] at q; cases q
                    · exact nomatch q
                    · exact absurd q fp
                    · obtain ⟨_, q⟩ := q; rw [hD] at q; cases q
                · rcases z.nf D0 hm with q | q | q
                  · exact fp q
                  · rw [hD] at q; cases q
                  · exact nomatch q
              refine ⟨g3, bindE (wipeE env (own.map (·.2))) bs, st3, os3, q1, q3, S3, (Post.bind0 (β := Bool) (γ := Bool) (N := fun c' st' => c' = c ∧ st' = st5) (by rw [ht]; exact ⟨rfl, rfl⟩)).imp fun c' H4 q => ?_⟩
              obtain ⟨g4, c2, st6, s4, rb, S4, rfl, rfl⟩ := q
              cases rb
              have hv4 := q1.step' q3 s4
              have ho4 := q3.step s4
              have hw4 := hv3.step' ho3 s4
              have how4 := ho3.step s4
              have x4 := x3.trans s4.ext
              cases c' with
              | false =>
                refine iteF ?_
                rw [if_neg (by decide)] at hl3
                obtain ⟨d1, d2, d3⟩ := kD s4
                exact ⟨g4, st6, os2, acc, vs, x4, hw4, how4, S4, d1, (rl.ext s3.ext).ext s4.ext, d2, d3, hDo, ys2, st4, hl3, hz2, fun g' H' vs' st' => fin g' H' vs' (((s3.trans s4).frame [D0]).trans st')⟩
              | true =>
                refine iteT ?_
                rw [if_pos rfl] at hl3
                obtain ⟨y1, st7, hte, hl4⟩ := bind0_ok hl3
                obtain ⟨yr, st8, hlr, hl5⟩ := bind0_ok hl4
                cases hl5
                refine ⟨g4, bindE (wipeE env (own.map (·.2))) bs, st6, os3, hv4, ho4, S4, (Post.bind0 (β := V) (γ := V) (N := fun y' st' => y' = y1 ∧ st' = st7) (by rw [hte]; exact ⟨rfl, rfl⟩)).imp fun yv H5 q => ?_⟩
                obtain ⟨g5, y2, st9, s5, ry, S5, rfl, rfl⟩ := q
                have s45 := s4.trans s5
                obtain ⟨d1, d2, d3⟩ := kD s45
                have rl5 := ((rl.ext s3.ext).ext s4.ext).ext s5.ext
                have hlen : vs.length = acc.length := rl.length.symm
                refine ⟨vs, d1, by simp only [List.length_append, List.length_cons] at hz2; omega, ?_⟩
                have hw5 := hw4.step' how4 s5
                have how5 := how4.step s5
                have hne : ∀ a ∈ os2, a ≠ D0 := fun a ha z => hDo (z ▸ ha)
                refine ⟨g5, st9, os2, acc ++ [y2], vs ++ [yv], x4.trans s5.ext, hw5.step (Ext.refl _) fun a ha => upd_ne (hne a ha), ⟨how5.nd, fun a ha => by rw [upd_ne (hne a ha)]; exact how5.th a ha, how5.kp, how5.fp⟩, S5.wrO d2 d3, upd_same, rl5.append (.cons ry .nil), d2, d3, hDo, yr, st4, hlr, by simpa using hz2, fun g' H' vs' st' hd' rl' kp' fp' S' => ?_⟩
                refine fin g' H' vs' ((((s3.trans s4).trans s5).frame [D0]).trans ((Step.wrO (by simp) (by rw [d1]; simp) (fun _ h => h)).trans st')) hd' (by simpa using rl') kp' fp' S'
          · have e : i = ds.length := by omega
            subst e
            refine .inl ⟨w1 _ (Nat.le_refl _), ?_⟩
            rw [List.drop_length] at hl2
            cases hl2
            exact fin g2 H2 vs Step.refl hD (by simpa using rl) kp fp S2
      · exact (h3 : False).elim
theorem s_lc {elt tg iter : Expr} {ifs : List Expr} {scope : Scope} {own : List (Str × Nat)} {pos : Pos} {p : Pat} {fi : En → Store → Res (List D)} {tt : En → Store → Res Bool} {te : En → Store → Res D} (hc : X.calm = true) (hN : X.N.Nodup) (hi : IE X W tg iter fi) (ok : BlkOk X.N X.env.scope scope own)
    (hp : ∀ i ∈ p.slots, i ∈ own.map (·.2))
    (hg : ∀ (s : Shared) (H : Hp) (C : Addr) (cl : List (Str × Addr)) (fp : List Addr), PG (X.blk s H scope (compEnvC scope cl C X.env) fp) tg (Pat.tg X.K p)) (ht : TsE X scope ifs tt)
    (he : BlkE X scope elt te) (hs : ∀ x, foldedSetIterable iter X.env x = pure x := by intro _; rfl) :
    SE X W (.ListComp elt [⟨tg, iter, ifs, 0⟩] scope pos) (vLc fi p (own.map (·.2)) tt te) :=
  ⟨fun pins s σ H Q I h => (pe_lc hc hN hi ok hg ht he hs).run pins s σ H Q I (lc_reads (elt := elt) (tg := tg) (iter := iter) (ifs := ifs) (scope := scope) hp h)⟩
end
end EV
set_option Elab.async false
set_option linter.all false
set_option autoImplicit false
set_option maxRecDepth 100000
set_option maxHeartbeats 400000
/-! a def by its name; the law's call; the end -/
namespace EV
open PySem PySem.Spec PyProof.Rows L2
/-- the module's def x does as F, at level k -/
def DefOk (P : Program) (w : World) (K : PySem.W.Frag) (mg : Str → Option Value) (base : Heap) (x : Str) (k : Nat) (ps : List Str) (F : List D → Store → Res D) : Prop :=
  ∃ f fd, mg x = some (.ref f) ∧ PySem.W.keepIn K (.ref f) = true ∧ Binds K fd ps [] ∧ FnG P w K mg base k f fd ps (spE K mg ps.length F)
theorem DefOk.mono {P : Program} {w : World} {K : PySem.W.Frag} {mg : Str → Option Value} {base : Heap} {x : Str} {j k : Nat} {ps : List Str} {F : List D → Store → Res D} (h : DefOk P w K mg base x j ps F) (hk : j ≤ k) : DefOk P w K mg base x k ps F := by
  obtain ⟨f, fd, a, b, c, d⟩ := h
  exact ⟨f, fd, a, b, c, d.mono hk⟩
/-- what the top has written of a def -/
structure TopDef (K : PySem.W.Frag) (mg : Str → Option Value) (x : Str) (st : Stmt) (ps : List Str) : Prop where
  ex : ∃ f fd, mg x = some (.ref f) ∧ Fun K x x st f fd ∧ Binds K fd ps []
section
variable {P : Program} {w : World} {K : PySem.W.Frag} {mg : Str → Option Value} {base : Heap}
theorem def_ok {x : Str} {st : Stmt} {N ps : List Str} {k m : Nat} {body : En → Store → ResS} (T : TopDef K mg x st ps) (S : FnScope N ps (defScope st)) (hN : N.length = ps.length + m)
    (hbody : ∀ (f : Addr) (cdv : Value) (A : Around) (outer : List Env) (s : Shared) (H : Hp) (E : XK), Rm k (A.deeper (envOfC x (defScope st) s.heap.objs.size f cdv)) →
      L2N.Takes (cxOf (L2N.CX P w) P w K mg base N x (defScope st) f cdv A outer s H E) (wOf K mg (wE K mg E)) →
      STs (cxOf (L2N.CX P w) P w K mg base N x (defScope st) f cdv A outer s H E) (wE K mg E) (defBody st) body) : DefOk P w K mg base x (k + 1) ps (fnF ps.length m body) := by
  obtain ⟨f, fd, hm, F, b⟩ := T.ex
  exact ⟨f, fd, hm, F.kp, b, fn_ok F S hN (hbody f)⟩
theorem topDef_mk {x : Str} {st : Stmt} {ps : List Str} {f : Addr} {oc : Value} {od an : Option Addr} {osl : Array (Option Value)} {kV doc pm cdv ct : Value} {h : Heap} (X : K.In h) (G : h.Ns mainGlobals mg)
    (a : PySem.W.nsIn K mainGlobals x = some (some (.ref f)))
    (l : K.lookup f = some ⟨oc, od, .func (PySem.W.fnOf x x (defArgs st) (defBody st) (defScope st) .none kV doc pm an cdv ct), osl⟩)
    (c : PySem.W.codeIn K cdv x = true) (k : PySem.W.keepIn K (.ref f) = true)
    (hb : ∀ (kV doc pm : Value) (an : Option Addr) (cdv ct : Value) (us : List Value), us.length = ps.length → bindArgs (PySem.W.fnOf x x (defArgs st) (defBody st) (defScope st) .none kV doc pm an cdv ct) ⟨us, []⟩ = pure (ps.zip us)) : TopDef K mg x st ps :=
  ⟨f, _, PySem.W.mg_of X G a, fun_mk l c k, (fun_mk (st := st) l c k).binds hb⟩
end
section
variable {X : Cx} {W : Wi} {k j : Nat} {ps : List Str} {F : List D → Store → Res D} {x : Str} {p pos : Pos} {e : Expr} {es : List Expr} {fa : En → Store → Res (List D)}
/-- f(e, ..) of the module's def f -/
theorem e_def (h : DefOk X.prog X.w X.K X.mg X.base x j ps F) (hr : Rm k X.A) (hj : j ≤ k) (tk : L2N.Takes X (wOf X.K X.mg W)) (hg : Gl X x) (ha : AE X W (e :: es) fa) (hdb : (x == ("__debug__" : Str)) = false := by decide) (he : starEach (e :: es) X.env = (false, eval e X.env) :: starEach es X.env := by rfl) (hpl : (backTo pos (starEach es X.env)).any (·.1) = false := by rfl) :
    EE X W (.Call (.Name x p) (e :: es) [] pos) (vA (fnN ps.length F) fa) := by
  obtain ⟨f, fd, hm, hk, hb, FG⟩ := h
  exact e_call FG (hr.mono hj) tk hg hm hk hb ha hdb he hpl
end
/-- the law's call -/
theorem law_callG {P : Program} {w : World} {K : PySem.W.Frag} {mg mb : Str → Option Value} {k : Nat} {fa a : Addr} {nm x : Str} {F0 : List D → Store → Res D} {s₁ : Shared} {vs : List Value} {ns : List Int}
    (KX : K.In s₁.heap) (hns : s₁.heap.Ns mainGlobals mg) (hb : s₁.heap.Ns builtinsNs mb) (hbb : ∀ x : Str, x ≠ "__name__" → mb x = bootBuiltins x) (hlim : s₁.heap.NoLimit) (hg : s₁.gens = #[])
    (ha : s₁.heap.get? a = some { cls := .type "list", data := .seq vs.toArray }) (hi : IntsAre vs ns) (hl : ns.length ≤ sizeLine) (hr : Rm k callerA) (hmg : mg nm = some (.ref fa))
    (F : ∀ base : Heap, K.In base → base.Ns mainGlobals mg → DefOk P w K mg base nm k [x] F0)
    (hF : ∃ st, F0 [.scr ns] [] = .ok (.bl true) st) :
    codeAny (model P w) callerA (.call (.ref fa) ⟨[.ref a], []⟩) (fun r s' => r = .ok (.ret (.bool true)) ∧ OldK s₁.heap s'.heap ∧ s'.os = s₁.os ∧ AllBare s'.gens) s₁ := by
  have rv := vals_ints hi
  have lenV := hi.length
  -- from an abstract heap in which nothing but the script may be tracked
  have core : ∀ H : Hp, Only H → SqL K H a (ns.map V.int) → HOk P w H s₁.heap → (∀ b, H b ≠ none → b = a) → (H a ≠ none → K.lookup a = none) →
      codeAny (model P w) callerA (.call (.ref fa) ⟨[.ref a], []⟩) (fun r s' => r = .ok (.ret (.bool true)) ∧ OldK s₁.heap s'.heap ∧ s'.os = s₁.os ∧ AllBare s'.gens) s₁ := by
    intro H hO hS hok hA hK
    have base_of : ∀ {b : Addr} {o : Obj}, s₁.heap.get? b = some o → H b = none → (hidT s₁.heap H).get? b = some o := fun e n => hidT_get e n
    have noA : ∀ {b : Addr} {o : Obj} {es : Array DictEntry} {ep : Nat}, s₁.heap.get? b = some o → o.data = .dict es ep → H b = none := fun {b o es ep} e d => by
      cases q : H b with
      | none => rfl
      | some u =>
        have e' : b = a := hA b (by rw [q]; simp)
        subst e'
        rw [ha] at e; cases e
        have d' : Data.seq vs.toArray _ = Data.dict es ep := d
        cases d'
    have nsK : ∀ {b : Addr} {m : Str → Option Value}, s₁.heap.Ns b m → (hidT s₁.heap H).Ns b m := fun {b m} ⟨o, es, ep, e, d, r⟩ => ⟨o, es, ep, base_of e (noA e d), d, r⟩
    have hKb : K.In (hidT s₁.heap H) := fun b o e => base_of (KX b o e) (by
      cases q : H b with
      | none => rfl
      | some u =>
        have e' : b = a := hA b (by rw [q]; simp)
        subst e'
        rw [hK (by rw [q]; simp)] at e; cases e)
    have hM : Mod K mg (hidT s₁.heap H) := ⟨hKb, nsK hns, ⟨mb, nsK hb, hbb⟩, let ⟨mc, h1, h2⟩ := hlim; ⟨mc, nsK h1, h2⟩⟩
    have e0 : Env0 P w K mg (hidT s₁.heap H) callerA [] s₁ H := ⟨rfl, hM, fun b o e => of_hidT e, Nat.le_of_eq (hidT_size _ _), trivial, fun b hb => absurd (show b ∈ ([] : List Addr) from hb) (by simp), hok, .of_eq hg⟩
    obtain ⟨stF, hF⟩ := hF
    have hsp : spE K mg 1 F0 [.ref a] H (fun v _ => v = .bl true) fun _ _ _ => False := by
      refine ⟨⟨H, []⟩, [.scr ns], [], rfl, .cons (.scr hS) .nil, ⟨fun _ _ h => h, by simp [G.fp, fpOf], fun b hb => ?_, fun b hb => ?_, .nil⟩, ?_⟩
      · simp [G.fp, fpOf] at hb
      · simp [G.fp, fpOf] at hb
      · rw [hF]
        intro v g' H' _ r _
        cases r
        rfl
    obtain ⟨f', fd, hm', _, hbd, FG⟩ := F _ hKb (nsK hns)
    rw [hmg] at hm'
    cases hm'
    refine codeAny_mono (FG.run callerA [] s₁ H ⟨[.ref a], []⟩ [.ref a] [.ref a] _ _ hr e0 (hbd s₁ [.ref a] KX rfl) (.cons rfl .nil) hsp) fun r s' h => ?_
    cases r with
    | error e =>
      obtain ⟨_, _, _, _, _, _, _, _, _, _, _, _, z⟩ := h
      exact z.elim
    | ok fl =>
      cases fl with
      | next => exact False.elim h
      | brk => exact False.elim h
      | cont => exact False.elim h
      | ret u =>
        obtain ⟨v, H', os, bare, un, hok', r', q⟩ := h
        have q' : v = .bl true := q
        subst q'
        obtain rfl : u = Value.bool true := r'
        refine ⟨rfl, OldK.of_keep fun b o e => ?_, os, bare⟩
        cases q : H b with
        | none => exact un.keep b o e q (by intro z; exact absurd (show b ∈ ([] : List Addr) from z) (by simp)) (by simp)
        | some u =>
          rcases hO b with z | ⟨ob, xs, z⟩
          · rw [q] at z; cases z
          · have z2 := un.frzs b ob _ z
            obtain ⟨e1, _⟩ := hok b _ z
            obtain ⟨e2, _⟩ := hok' b _ z2
            rw [e] at e1; cases e1
            exact e2
  cases hk : K.lookup a with
  | some o =>
    -- the script is one of the module's own objects
    have e := KX a o hk
    rw [ha] at e
    cases e
    refine core (fun _ => none) (fun _ => .inl rfl) (.inr ⟨_, vs.toArray, _, hk, rfl, rfl, rfl, by rw [List.size_toArray, lenV]; exact hl, by simpa using rv⟩) (fun b u z => by have z' : (none : Option HO) = some u := z; cases z') (fun b z => absurd rfl z) fun z => absurd rfl z
  | none =>
    refine core (fun b => if b = a then some (.frz { cls := .type "list", data := .seq vs.toArray } (.lst (ns.map V.int))) else none) (fun b => ?_) (.inl (.inr ⟨{ cls := .type "list", data := .seq vs.toArray }, if_pos rfl⟩)) (fun b u z => ?_) (fun b z => ?_) fun _ => hk
    · by_cases hb : b = a
      · exact .inr ⟨_, _, if_pos hb⟩
      · exact .inl (if_neg hb)
    · by_cases hb : b = a
      · have z' := (if_pos hb).symm.trans z
        cases z'
        subst hb
        exact ⟨ha, by rw [List.length_map]; exact hl, vs, _, rv, ha⟩
      · have z' := (if_neg hb).symm.trans z
        cases z'
    · by_cases hb : b = a
      · exact hb
      · exact absurd (if_neg hb) z
end EV
set_option Elab.async false
set_option linter.all false
set_option autoImplicit false
set_option maxRecDepth 100000
set_option maxHeartbeats 400000
/-! chains; stores of comprehensions; augmented stores -/
namespace EV
open PySem PySem.Spec PyProof.Rows L2
section
variable {X : Cx} {W : Wi} {a b c e : Expr} {fa fb fc fe : En → Store → Res D} {fs : En → Store → Res Slot} {pos : Pos}
/-- a op b op' c -/
def vChain (F F' : D → D → Store → Res D) (fa fb fc : En → Store → Res D) : En → Store → Res D := fun env st => (fa env st).bind fun x st => (fb env st).bind fun y st => (F x y st).bind fun r st => match r with
  | .bl true => (fc env st).bind fun z st => F' y z st
  | .bl false => .ok (.bl false) st
  | _ => .stuck
/-! ### stores -/
theorem set_reads {i : Nat} {D : Ends} {σ : L2.St} {H : Hp} (h : tS X.K X.mg W (sSet i fe) D σ H) : tE X.K X.mg W fe σ H (fun v H1 => D.nx (σ.set i (some v)) H1) := by
  obtain ⟨g, env, st, os, hv, ho, hS, h⟩ := h
  refine ⟨g, env, st, os, hv, ho, hS, (PostSt.go hv ho h).imp fun v H1 q => ?_⟩
  obtain ⟨g1, a, st1, s1, r, S1, e1, o1, h1⟩ := q
  exact PostSt.set (l := []) e1 o1 (.vl r) S1 h1
theorem frz_reads {σ : L2.St} {H : Hp} {Q : VK} (h : tE X.K X.mg W (vFrz fs) σ H Q) : tSl X.K X.mg W fs σ H Q := by
  obtain ⟨g, env, st, os, hv, ho, hS, h⟩ := h
  exact ⟨g, env, st, os, hv, ho, hS, PostS.frz h⟩
end
end EV
set_option Elab.async false
set_option linter.all false
set_option autoImplicit false
set_option maxRecDepth 100000
set_option maxHeartbeats 400000
/-! running what a text does on data: what must hold behind -/
namespace EV
open PySem PySem.Spec PyProof.Rows L2
/-- what is wanted of an error -/
abbrev ErP := Er → Store → Prop
abbrev ErS := Er → En → Store → Prop
abbrev noE : ErP := fun _ _ => False
abbrev atE (Ee : ErS) (env : En) : ErP := fun e st => Ee e env st
abbrev ofE (E : ErP) : ErS := fun e _ st => E e st
section
variable {α β : Type} {E E' : ErP}
def Res.holds (r : Res α) (E : ErP) (P : α → Store → Prop) : Prop := match r with
  | .ok a st => P a st
  | .er e st => E e st
  | .stuck => False
theorem Res.holds_bind {r : Res α} {k : α → Store → Res β} {P : β → Store → Prop} : (r.bind k).holds E P = r.holds E fun a st => (k a st).holds E P := by
  cases r <;> rfl
theorem Res.holds_bind0 {r : Res α} {k : α → Store → Res β} {P : β → Store → Prop} : (r.bind0 k).holds noE P = r.holds noE fun a st => (k a st).holds noE P := by
  cases r <;> rfl
theorem Res.holds.imp {r : Res α} {P Q : α → Store → Prop} (h : r.holds E P) (k : ∀ a st, P a st → Q a st) : r.holds E Q := by
  cases r with
  | ok a st => exact k a st h
  | er e st => exact h
  | stuck => exact h
theorem Res.holds.impE {r : Res α} {P Q : α → Store → Prop} (h : r.holds E P) (k : ∀ a st, P a st → Q a st) (ke : ∀ e st, E e st → E' e st) : r.holds E' Q := by
  cases r with
  | ok a st => exact k a st h
  | er e st => exact ke e st h
  | stuck => exact h
theorem Res.holds.any {r : Res α} {P : α → Store → Prop} (h : r.holds noE P) : r.holds E P := h.impE (fun _ _ q => q) fun _ _ q => q.elim
theorem Res.holds_ex {r : Res α} {P : α → Store → Prop} (h : r.holds noE P) : ∃ a st, r = .ok a st ∧ P a st := by
  cases r with
  | ok a st => exact ⟨a, st, rfl, h⟩
  | er e st => exact h.elim
  | stuck => exact h.elim
theorem Res.eq_of {r : Res α} {a : α} {st : Store} (h : r.holds noE fun b st' => b = a ∧ st' = st) : r = .ok a st := by
  obtain ⟨b, st', e, rfl, rfl⟩ := Res.holds_ex h
  exact e
end
abbrev NX := En → Store → Prop
abbrev RT := D → Store → Prop
def ResS.runs (r : ResS) (Ee : ErS) (nx : NX) (rt : RT) (br ct : NX) : Prop := match r with
  | .nx env st => nx env st
  | .rt d st => rt d st
  | .br env st => br env st
  | .ct env st => ct env st
  | .er e env st => Ee e env st
  | .stuck => False
def no : NX := fun _ _ => False
def noR : RT := fun _ _ => False
variable {E : ErP} {Ee : ErS}
section
variable {nx br ct : NX} {rt : RT} {env : En} {st : Store} {f g : En → Store → ResS} {fe fa fb fc fi fo : En → Store → Res D} {fs : En → Store → Res Slot} {fl : En → Store → Res (List D)} {t u : En → Store → Res Bool} {i j : Nat} {P : D → Store → Prop} {PL : List D → Store → Prop} {PS : Slot → Store → Prop} {PB : Bool → Store → Prop}
/-- ahead of a statement: the slots are written out -/
def Nm (env : En) (P : En → Prop) : Prop := P env
theorem go_nm {env env' : En} {P : En → Prop} (h : env = env') (q : P env') : Nm env P := by
  unfold Nm
  rw [h]
  exact q
theorem go_fn {n m : Nat} {body : En → Store → ResS} {ds : List D} (h : ds.length = n) (q : Nm (ds.map Slot.vl ++ List.replicate m Slot.un) fun env => (body env st).runs (ofE E) (fun _ st => P .non st) P no no) : (fnF n m body ds st).holds E P := by
  unfold Nm at q
  unfold fnF
  rw [if_pos h]
  revert q
  generalize body (ds.map Slot.vl ++ List.replicate m Slot.un) st = r
  intro q
  cases r <;> exact q
theorem go_fnN {n : Nat} {F : List D → Store → Res D} {ds : List D} (h : ds.length = n) (q : (F ds st).holds E P) : (fnN n F ds st).holds E P := by
  unfold fnN
  rw [if_pos h]
  exact q
theorem go_seq (q : (f env st).runs Ee (fun env st => Nm env fun env => (g env st).runs Ee nx rt br ct) rt br ct) : (sSeq f g env st).runs Ee nx rt br ct := by
  unfold sSeq
  revert q
  generalize f env st = r
  intro q
  cases r <;> exact q
theorem go_nil (q : nx env st) : (sNil env st).runs Ee nx rt br ct := q
theorem go_go {α : Type} {r : Res α} {c : α → Store → ResS} (q : r.holds (atE Ee env) fun a st => (c a st).runs Ee nx rt br ct) : (r.go env c).runs Ee nx rt br ct := by
  cases r <;> exact q
theorem go_ret (q : (fe env st).holds (atE Ee env) rt) : (sRet fe env st).runs Ee nx rt br ct := go_go q
theorem go_retN (q : rt .non st) : (sRetN env st).runs Ee nx rt br ct := q
theorem go_expr (q : (fe env st).holds (atE Ee env) fun _ st => nx env st) : (sExpr fe env st).runs Ee nx rt br ct := go_go q
theorem go_if (q : (t env st).holds (atE Ee env) fun c st => (c = true → (f env st).runs Ee nx rt br ct) ∧ (c = false → (g env st).runs Ee nx rt br ct)) : (sIf t f g env st).runs Ee nx rt br ct :=
  go_go (q.imp fun c st h => by
    cases c with
    | true => exact h.1 rfl
    | false => exact h.2 rfl)
theorem go_set (q : (fe env st).holds (atE Ee env) fun d st => nx (env.set i (.vl d)) st) : (sSet i fe env st).runs Ee nx rt br ct := go_go q
theorem go_setS (q : (fs env st).holds (atE Ee env) fun d st => nx (env.set i d) st) : (sSetS i fs env st).runs Ee nx rt br ct := go_go q
theorem go_asg {tg : D → En → Store → ResS} (q : (fe env st).holds (atE Ee env) fun d st => (tg d env st).runs Ee nx noR no no) : (sAsg fe tg env st).runs Ee nx rt br ct := by
  refine go_go (q.imp fun d st h => ?_)
  revert h
  generalize tg d env st = r
  intro h
  cases r with
  | nx env1 st1 => exact h
  | er e env1 st1 => exact h
  | _ => exact (h : False).elim
theorem go_pat {p : Pat} {d : D} {bs : List (Nat × D)} (h : Pat.bind p d = some bs) (q : nx (bindE env bs) st) : (gPat p d env st).runs Ee nx rt br ct := by
  unfold gPat
  rw [h]
  exact q
theorem go_subR {d : D} (q : (fo env st).holds (atE Ee env) fun o st => (fi env st).holds (atE Ee env) fun i st => ∃ st', setR o i d st = some st' ∧ nx env st') : (gSubR fo fi d env st).runs Ee nx rt br ct := by
  refine go_go (q.imp fun o st h => go_go (h.imp fun i st h => ?_))
  obtain ⟨st', e, h⟩ := h
  rw [e]
  exact h
theorem go_frzO {ds : List D} (h : env[i]? = some (.ol ds)) (q : (f (env.set i (.vl (.lst ds))) st).runs Ee nx rt br ct) : (sFrz i f env st).runs Ee nx rt br ct := by
  unfold sFrz
  rw [h]
  exact q
theorem go_frzV {d : D} (h : env[i]? = some (.vl d)) (q : (f env st).runs Ee nx rt br ct) : (sFrz i f env st).runs Ee nx rt br ct := by
  unfold sFrz
  rw [h]
  exact q
theorem go_app {ds : List D} (h : env[i]? = some (.ol ds)) (q : (fe env st).holds (atE Ee env) fun d st => ds.length < sizeLine ∧ nx (env.set i (.ol (ds ++ [d]))) st) : (sApp i fe env st).runs Ee nx rt br ct := by
  unfold sApp
  rw [h]
  show (Res.go env (fe env st) fun d st => if ds.length < sizeLine then ResS.nx (env.set i (.ol (ds ++ [d]))) st else .stuck).runs Ee nx rt br ct
  refine go_go (q.imp fun d st h => ?_)
  rw [if_pos h.1]
  exact h.2
theorem go_for {tg : D → En → Store → ResS} (q : (fl env st).holds (atE Ee env) fun ds st => (forL tg f ds env st).runs Ee nx rt br ct) : (sFor fl tg f env st).runs Ee nx rt br ct := go_go q
/-- a loop by what holds between two turns -/
theorem go_loop {tg : D → En → Store → ResS} (I : List D → En → Store → Prop) : ∀ {ds : List D} {env : En} {st : Store}, I ds env st → (∀ env st, I [] env st → nx env st) →
    (∀ d r env st, I (d :: r) env st → (tg d env st).runs Ee (fun env st => (f env st).runs Ee (I r) rt nx (I r)) noR no no) → (forL tg f ds env st).runs Ee nx rt br ct
  | [], env, st, h, hn, _ => hn env st h
  | d :: ds, env, st, h, hn, hs => by
    have q := hs d ds env st h
    unfold forL
    revert q
    generalize tg d env st = r
    intro q
    cases r with
    | nx env1 st1 =>
      have q' : (f env1 st1).runs Ee (I ds) rt nx (I ds) := q
      show (match f env1 st1 with
        | .nx env st => forL tg f ds env st
        | .ct env st => forL tg f ds env st
        | .br env st => .nx env st
        | r => r).runs Ee nx rt br ct
      revert q'
      generalize f env1 st1 = r2
      intro q'
      cases r2 with
      | nx env2 st2 => exact go_loop I q' hn hs
      | ct env2 st2 => exact go_loop I q' hn hs
      | br env2 st2 => exact q'
      | rt d st2 => exact q'
      | er e env2 st2 => exact q'
      | stuck => exact q'
    | er e env1 st1 => exact q
    | _ => exact (q : False).elim
/-! expressions -/
theorem go_name {d : D} (h : env[i]? = some (.vl d)) (q : P d st) : (vName i env st).holds E P := by
  unfold vName
  rw [h]
  exact q
theorem go_c {d : D} (q : P d st) : (vC d env st).holds E P := q
theorem go_v2 {α : Type} {F : D → D → Store → Res α} {P : α → Store → Prop} (q : (fa env st).holds E fun x st => (fb env st).holds E fun y st => (F x y st).holds E P) : (v2 F fa fb env st).holds E P := by
  unfold v2
  rw [Res.holds_bind]
  refine q.imp fun x st h => ?_
  rw [Res.holds_bind]
  exact h
theorem go_v1 {α : Type} {F : D → Store → Res α} {P : α → Store → Prop} (q : (fa env st).holds E fun x st => (F x st).holds E P) : (v1 F fa env st).holds E P := by
  unfold v1
  rw [Res.holds_bind]
  exact q
theorem go_vA {α : Type} {F : List D → Store → Res α} {P : α → Store → Prop} (q : (fl env st).holds E fun x st => (F x st).holds E P) : (vA F fl env st).holds E P := by
  unfold vA
  rw [Res.holds_bind]
  exact q
theorem go_vNil (q : PL [] st) : (vNil env st).holds E PL := q
theorem go_vCons (q : (fa env st).holds E fun x st => (fl env st).holds E fun xs st => PL (x :: xs) st) : (vCons fa fl env st).holds E PL := by
  unfold vCons
  rw [Res.holds_bind]
  refine q.imp fun x st h => ?_
  rw [Res.holds_bind]
  exact h
theorem go_vB (q : (fa env st).holds E fun d st => ∃ c, d = .bl c ∧ PB c st) : (vB fa env st).holds E PB := by
  unfold vB toB
  rw [Res.holds_bind]
  refine q.imp fun d st h => ?_
  obtain ⟨c, rfl, h⟩ := h
  exact h
theorem go_vNot (q : (t env st).holds E fun c st => PB (!c) st) : (vNot t env st).holds E PB := by
  unfold vNot
  rw [Res.holds_bind]
  exact q
theorem go_vAnd (q : (t env st).holds E fun c st => (c = true → (u env st).holds E PB) ∧ (c = false → PB false st)) : (vAnd t u env st).holds E PB := by
  unfold vAnd
  rw [Res.holds_bind]
  refine q.imp fun c st h => ?_
  cases c with
  | true => exact h.1 rfl
  | false => exact h.2 rfl
theorem go_vOr (q : (t env st).holds E fun c st => (c = true → PB true st) ∧ (c = false → (u env st).holds E PB)) : (vOr t u env st).holds E PB := by
  unfold vOr
  rw [Res.holds_bind]
  refine q.imp fun c st h => ?_
  cases c with
  | true => exact h.1 rfl
  | false => exact h.2 rfl
theorem go_vAndV (q : (fa env st).holds E fun d st => ∃ c, d = .bl c ∧ (c = true → (fb env st).holds E P) ∧ (c = false → P (.bl false) st)) : (vAndV fa fb env st).holds E P := by
  unfold vAndV
  rw [Res.holds_bind]
  refine q.imp fun d st h => ?_
  obtain ⟨c, rfl, h⟩ := h
  cases c with
  | true => exact h.1 rfl
  | false => exact h.2 rfl
theorem go_vOrV (q : (fa env st).holds E fun d st => ∃ c, d = .bl c ∧ (c = true → P (.bl true) st) ∧ (c = false → (fb env st).holds E P)) : (vOrV fa fb env st).holds E P := by
  unfold vOrV
  rw [Res.holds_bind]
  refine q.imp fun d st h => ?_
  obtain ⟨c, rfl, h⟩ := h
  cases c with
  | true => exact h.1 rfl
  | false => exact h.2 rfl
theorem go_vNotV (q : (fa env st).holds E fun d st => ∃ c, d = .bl c ∧ P (.bl (!c)) st) : (vNotV fa env st).holds E P := by
  unfold vNotV
  rw [Res.holds_bind]
  refine q.imp fun d st h => ?_
  obtain ⟨c, rfl, h⟩ := h
  exact h
theorem go_vIf {α : Type} {f g : En → Store → Res α} {P : α → Store → Prop} (q : (t env st).holds E fun c st => (c = true → (f env st).holds E P) ∧ (c = false → (g env st).holds E P)) : (vIf t f g env st).holds E P := by
  unfold vIf
  rw [Res.holds_bind]
  refine q.imp fun c st h => ?_
  cases c with
  | true => exact h.1 rfl
  | false => exact h.2 rfl
theorem go_chain {F F' : D → D → Store → Res D} (q : (fa env st).holds E fun x st => (fb env st).holds E fun y st => (F x y st).holds E fun d st => ∃ c, d = .bl c ∧ (c = true → (fc env st).holds E fun z st => (F' y z st).holds E P) ∧ (c = false → P (.bl false) st)) : (vChain F F' fa fb fc env st).holds E P := by
  unfold vChain
  rw [Res.holds_bind]
  refine q.imp fun x st h => ?_
  rw [Res.holds_bind]
  refine h.imp fun y st h => ?_
  rw [Res.holds_bind]
  refine h.imp fun d st h => ?_
  obtain ⟨c, rfl, h⟩ := h
  cases c with
  | true =>
    show ((fc env st).bind fun z st => F' y z st).holds E P
    rw [Res.holds_bind]
    exact h.1 rfl
  | false => exact h.2 rfl
theorem go_vFrz (q : (fs env st).holds E fun s st => (frz s st).holds E P) : (vFrz fs env st).holds E P := by
  unfold vFrz
  rw [Res.holds_bind]
  exact q
theorem go_vRef (q : (fs env st).holds E fun s st => (toRef s st).holds E P) : (vRef fs env st).holds E P := by
  unfold vRef
  rw [Res.holds_bind]
  exact q
theorem go_vSl (q : (fe env st).holds E fun d st => PS (.vl d) st) : (vSl fe env st).holds E PS := by
  unfold vSl
  rw [Res.holds_bind]
  exact q
theorem go_frz {ds : List D} (q : P (.lst ds) st) : (frz (.ol ds) st).holds E P := q
theorem go_frz2 {d : D} (q : P d st) : (frz (.vl d) st).holds E P := q
theorem go_toRef {ds : List D} (q : P (.ref st.length) (st ++ [.cell (.ol ds)])) : (toRef (.ol ds) st).holds E P := q
theorem line1000 : (1000 : Nat) ≤ sizeLine := by decide
theorem line100000 : (100000 : Nat) ≤ sizeLine := by decide
theorem go_mkTup {xs : List D} (h : xs.length ≤ 1000) (q : P (.tup xs) st) : (mkTup xs st).holds E P := by
  unfold mkTup
  rw [if_pos (Nat.le_trans h line1000)]
  exact q
theorem go_mkLst {xs : List D} (h : xs.length ≤ 1000) (q : PS (.ol xs) st) : (mkLst xs st).holds E PS := by
  unfold mkLst
  rw [if_pos (Nat.le_trans h line1000)]
  exact q
theorem atD_nodict {st : Store} {x : D} {n : Int} {d : D} (h : atD st x n = some d) : dictOf st x = none := by
  cases x with
  | ref m =>
    have h : (match st[m]? with | some (.cell (.ol ds)) => atI ds n | _ => none) = some d := h
    show (match st[m]? with | some (.cell (.od _ kvs)) => some kvs | _ => none) = none
    split at h
    · next ds e => rw [e]
    · cases h
  | dct _ => cases h
  | _ => rfl
theorem go_ix {x : D} {n : Int} {d : D} (h : atD st x n = some d) (q : P d st) : (ixD x (.int n) st).holds E P := by
  unfold ixD
  simp only [atD_nodict h, h]
  exact q
theorem go_ixD {x y : D} {kvs : List (DK × D)} {k : DK} {d : D} (h : dictOf st x = some kvs) (hk : dkOf y = some k) (hd : lkD kvs k = some d) (q : P d st) : (ixD x y st).holds E P := by
  unfold ixD
  simp only [h, hk, hd]
  exact q
theorem go_ixO {ds : List D} (h : env[i]? = some (.ol ds)) (q : (fb env st).holds E fun y st => ∃ n d, y = .int n ∧ atI ds n = some d ∧ P d st) : (vIxO i fb env st).holds E P := by
  unfold vIxO
  rw [h]
  show ((fb env st).bind _).holds E P
  rw [Res.holds_bind]
  refine q.imp fun y st h => ?_
  obtain ⟨n, d, rfl, e, h⟩ := h
  simp only [e]
  exact h
theorem go_lenO {ds : List D} (h : env[i]? = some (.ol ds)) (q : P (.int ds.length) st) : (vLenO i env st).holds E P := by
  unfold vLenO
  rw [h]
  exact q
theorem go_add {a b : Int} (q : P (.int (a + b)) st) : (addD (.int a) (.int b) st).holds E P := q
theorem go_sub {a b : Int} (q : P (.int (a - b)) st) : (subD (.int a) (.int b) st).holds E P := q
theorem go_neg {a : Int} (q : P (.int (-a)) st) : (negD (.int a) st).holds E P := q
theorem go_mul {a b : Int} (h : a.natAbs.log2 + b.natAbs.log2 < 1000000) (q : P (.int (a * b)) st) : (mulD (.int a) (.int b) st).holds E P := by
  unfold mulD intD
  simp only [h, decide_true, if_true]
  exact q
theorem go_mod {a b : Int} (h : 0 < b) (q : P (.int (a % b)) st) : (modD (.int a) (.int b) st).holds E P := by
  unfold modD intD
  simp only [h, decide_true, if_true]
  exact q
theorem go_fdiv {a b : Int} (h : 0 < b) (h2 : b.natAbs.log2 < 9000) (q : P (.int (a / b)) st) : (fdivD (.int a) (.int b) st).holds E P := by
  unfold fdivD intD
  simp only [h, h2, decide_true, Bool.and_self, if_true]
  exact q
theorem go_pow {a b : Int} (h : 0 ≤ b) (h2 : ((Builtin.Int.intBits a : Nat) : Int) * b ≤ 2 ^ 27) (q : P (.int (a ^ b.toNat)) st) : (powD (.int a) (.int b) st).holds E P := by
  unfold powD intD
  simp only [h, h2, decide_true, Bool.and_self, if_true]
  exact q
theorem go_lt {a b : Int} (q : P (.bl (decide (a < b))) st) : (ltD (.int a) (.int b) st).holds E P := q
theorem go_le {a b : Int} (q : P (.bl (decide (a ≤ b))) st) : (leD (.int a) (.int b) st).holds E P := q
theorem go_gt {a b : Int} (q : P (.bl (decide (b < a))) st) : (gtD (.int a) (.int b) st).holds E P := q
theorem go_ge {a b : Int} (q : P (.bl (decide (b ≤ a))) st) : (geD (.int a) (.int b) st).holds E P := q
theorem go_eqI {a b : Int} (q : P (.bl (decide (a = b))) st) : (eqD (.int a) (.int b) st).holds E P := q
theorem go_neI {a b : Int} (q : P (.bl (!decide (a = b))) st) : (neD (.int a) (.int b) st).holds E P := q
theorem go_eqS {a b : Str} (q : P (.bl (decide (a = b))) st) : (eqD (.str a) (.str b) st).holds E P := q
theorem go_neS {a b : Str} (q : P (.bl (!decide (a = b))) st) : (neD (.str a) (.str b) st).holds E P := q
theorem go_isB {a b : Bool} (q : P (.bl (decide (a = b))) st) : (isD (.bl a) (.bl b) st).holds E P := q
theorem go_isntB {a b : Bool} (q : P (.bl (!decide (a = b))) st) : (isntD (.bl a) (.bl b) st).holds E P := q
theorem go_seqL {ds : List D} (q : PL ds st) : (seqF (.lst ds) st).holds E PL := q
theorem go_seqT {ds : List D} (q : PL ds st) : (seqF (.tup ds) st).holds E PL := q
theorem go_rng1 {n : Int} (h : -(2 ^ 62) ≤ n ∧ n < 2 ^ 62) (q : PL (rngD 0 n.toNat) st) : (rng1F [.int n] st).holds E PL := by
  unfold rng1F
  simp only [if_pos h]
  exact q
theorem go_abs {a : Int} (q : P (.int (if a < 0 then -a else a)) st) : (absD [.int a] st).holds E P := q
theorem go_max2 {a b : Int} (q : P (.int (if b > a then b else a)) st) : (max2 [.int a, .int b] st).holds E P := q
theorem go_min2 {a b : Int} (q : P (.int (if b < a then b else a)) st) : (min2 [.int a, .int b] st).holds E P := q
theorem go_intI {a : Int} (q : P (.int a) st) : (intOf [.int a] st).holds E P := q
theorem go_intB {a : Bool} (q : P (.int (if a then 1 else 0)) st) : (intOf [.bl a] st).holds E P := q
theorem go_lenL {ds : List D} (q : P (.int ds.length) st) : (lenD [.lst ds] st).holds E P := q
theorem go_lenT {ds : List D} (q : P (.int ds.length) st) : (lenD [.tup ds] st).holds E P := q
theorem go_lenC {ds : List Int} (q : P (.int ds.length) st) : (lenD [.scr ds] st).holds E P := q
theorem go_listL {ds : List D} (q : PS (.ol ds) st) : (listOf [.lst ds] st).holds E PS := q
theorem go_listT {ds : List D} (q : PS (.ol ds) st) : (listOf [.tup ds] st).holds E PS := q
theorem go_tupL {ds : List D} (q : P (.tup ds) st) : (tupOfD [.lst ds] st).holds E P := q
theorem go_tupT {ds : List D} (q : P (.tup ds) st) : (tupOfD [.tup ds] st).holds E P := q
theorem go_isi {x : D} {T a : String} (h : tyName x = some a) (hT : T ∈ tyKnown) (q : P (.bl (isTy a T)) st) : (isiD [x, .ty T] st).holds E P := by
  unfold isiD
  simp only [tyR_of h, if_pos hT]
  exact q
theorem go_isi2 {x : D} {T T' a : String} (h : tyName x = some a) (hT : T ∈ tyKnown ∧ T' ∈ tyKnown) (q : P (.bl (isTy a T || isTy a T')) st) : (isiD [x, .tup [.ty T, .ty T']] st).holds E P := by
  unfold isiD
  simp only [tyR_of h, if_pos hT]
  exact q
theorem go_revL {ds : List D} (q : P (.lst ds.reverse) st) : (revF (.lst ds) st).holds E P := q
theorem go_revT {ds : List D} (q : P (.tup ds.reverse) st) : (revF (.tup ds) st).holds E P := q
theorem go_noP {PO : Option Int → Store → Prop} (q : PO none st) : (vNoP env st).holds E PO := q
theorem go_soP {PO : Option Int → Store → Prop} (q : (fe env st).holds E fun d st => ∃ n, d = .int n ∧ PO (some n) st) : (vSoP fe env st).holds E PO := by
  unfold vSoP
  rw [Res.holds_bind]
  refine q.imp fun d st h => ?_
  obtain ⟨n, rfl, h⟩ := h
  exact h
theorem go_slice {fl fh : En → Store → Res (Option Int)} (q : (fa env st).holds E fun x st => (fl env st).holds E fun lo st => (fh env st).holds E fun hi st => ∃ d, slF x lo hi = some d ∧ P d st) : (vSlice fa fl fh env st).holds E P := by
  unfold vSlice
  rw [Res.holds_bind]
  refine q.imp fun x st h => ?_
  rw [Res.holds_bind]
  refine h.imp fun lo st h => ?_
  rw [Res.holds_bind]
  refine h.imp fun hi st h => ?_
  obtain ⟨d, e, h⟩ := h
  rw [e]
  exact h
theorem go_addL {xs ys : List D} (h : xs.length + ys.length ≤ 100000) (q : P (.lst (xs ++ ys)) st) : (addD (.lst xs) (.lst ys) st).holds E P := by
  unfold addD
  simp only [if_pos (Nat.le_trans h line100000)]
  exact q
theorem go_addT {xs ys : List D} (h : xs.length + ys.length ≤ 100000) (q : P (.tup (xs ++ ys)) st) : (addD (.tup xs) (.tup ys) st).holds E P := by
  unfold addD
  simp only [if_pos (Nat.le_trans h line100000)]
  exact q
theorem go_addSL {xs ys : List D} (h : xs.length + ys.length ≤ 100000) (q : PS (.ol (xs ++ ys)) st) : (addS (.lst xs) (.lst ys) st).holds E PS := by
  unfold addS
  simp only [if_pos (Nat.le_trans h line100000)]
  exact q
theorem go_bl {c : Bool} {Q : Bool → Prop} (q : Q c) : ∃ c', D.bl c = .bl c' ∧ Q c' := ⟨c, rfl, q⟩
theorem go_in {c : Int} {Q : Int → Prop} (q : Q c) : ∃ c', D.int c = .int c' ∧ Q c' := ⟨c, rfl, q⟩
theorem go_in2 {α : Type} {c : Int} {Q : Int → α → Prop} (q : ∃ x, Q c x) : ∃ c' x, D.int c = .int c' ∧ Q c' x := by
  obtain ⟨x, h⟩ := q
  exact ⟨c, x, rfl, h⟩
/-- a row of numbers, walked -/
theorem rng_loop {tg : D → En → Store → ResS} {lo : Int} {n : Nat} (I : Nat → En → Store → Prop) {env : En} {st : Store} (h0 : I 0 env st) (hn : ∀ env st, I n env st → nx env st)
    (hs : ∀ m env st, m < n → I m env st → (tg (.int (lo + (m : Int))) env st).runs Ee (fun env st => (f env st).runs Ee (I (m + 1)) rt nx (I (m + 1))) noR no no) : (forL tg f (rngD lo n) env st).runs Ee nx rt br ct := by
  have key : ∀ (k : Nat) (m : Nat), m + k = n → rngD lo n = rngD lo n → ∀ ds, ds = (List.range' m k).map (fun (i : Nat) => D.int (lo + (i : Int))) → ∀ env st, I m env st → (forL tg f ds env st).runs Ee nx rt br ct := by
    intro k m hm _ ds hds env st hI
    refine go_loop (fun ds env st => ∃ m k, m + k = n ∧ ds = (List.range' m k).map (fun (i : Nat) => D.int (lo + (i : Int))) ∧ I m env st) ⟨m, k, hm, hds, hI⟩ ?_ ?_
    · rintro env st ⟨m, k, hm, e, h⟩
      cases k with
      | zero => rw [Nat.add_zero] at hm; subst hm; exact hn env st h
      | succ k => rw [List.range'_succ] at e; cases e
    · rintro d r env st ⟨m, k, hm, e, h⟩
      cases k with
      | zero => cases e
      | succ k =>
        rw [List.range'_succ, List.map_cons] at e
        injection e with e1 e2
        subst e1 e2
        have hlt : m < n := by omega
        have q := hs m env st hlt h
        revert q
        generalize tg (.int (lo + (m : Int))) env st = r
        intro q
        cases r with
        | nx env1 st1 =>
          have q' : (f env1 st1).runs Ee (I (m + 1)) rt nx (I (m + 1)) := q
          show (f env1 st1).runs Ee _ _ _ _
          revert q'
          generalize f env1 st1 = r2
          intro q'
          cases r2 with
          | nx env2 st2 => exact ⟨m + 1, k, by omega, rfl, q'⟩
          | ct env2 st2 => exact ⟨m + 1, k, by omega, rfl, q'⟩
          | br env2 st2 => exact q'
          | rt d st2 => exact q'
          | er e env2 st2 => exact q'
          | stuck => exact q'
        | er e env1 st1 => exact q
        | _ => exact (q : False).elim
  refine key n 0 (by omega) rfl _ ?_ env st h0
  unfold rngD
  rw [List.range_eq_range']
end
end EV
set_option Elab.async false
set_option linter.all false
set_option autoImplicit false
set_option maxRecDepth 100000
set_option maxHeartbeats 400000
/-! plain data: what may be shown and told apart -/
namespace EV
open PySem PySem.Spec PyProof.Rows L2
variable {E : ErP} {Ee : ErS}
mutual
def pl (N : Nat) : D → Bool
  | .non => true
  | .bl _ => true
  | .int i => decide (i.natAbs < N)
  | .str x => x.cps.all (· < 0x110000)
  | .tup xs => pls N xs
  | .lst xs => pls N xs
  | _ => false
def pls (N : Nat) : List D → Bool
  | [] => true
  | x :: xs => pl N x && pls N xs
end
mutual
def dep : D → Nat
  | .tup xs => deps xs + 1
  | .lst xs => deps xs + 1
  | _ => 0
def deps : List D → Nat
  | [] => 0
  | x :: xs => max (dep x) (deps xs)
end
mutual
def wt : D → Nat
  | .int _ => 40
  | .str x => x.cps.size
  | .tup xs => wts xs
  | .lst xs => wts xs
  | _ => 0
def wts : List D → Nat
  | [] => 0
  | x :: xs => wt x + 1 + wts xs
end
theorem log_lt {a : Int} {k : Nat} (hk : 0 < k) (h : a.natAbs < 2 ^ k) : a.natAbs.log2 < k := by
  by_cases h0 : a.natAbs = 0
  · rw [h0]; simpa using hk
  · exact (Nat.log2_lt h0).mpr h
theorem lg2 {a b : Int} (h : a.natAbs < 2 ^ 200) (h' : b.natAbs < 2 ^ 200) : a.natAbs.log2 + b.natAbs.log2 < 1000000 := by
  have := log_lt (k := 200) (by decide) h
  have := log_lt (k := 200) (by decide) h'
  omega
theorem lg1 {b : Int} (h' : b.natAbs < 2 ^ 200) : b.natAbs.log2 < 9000 := by
  have := log_lt (k := 200) (by decide) h'
  omega
theorem pl_int {N : Nat} {i : Int} (h : pl N (.int i) = true) : i.natAbs < N := by
  unfold pl at h
  exact of_decide_eq_true h
theorem short_int {i : Int} (h : i.natAbs < 10 ^ 12) : (PyData.shown (.int i)).length ≤ 13 := by
  unfold PyData.shown
  show (Str.ofString (toString i)).length ≤ 13
  rw [PySem.ofString_length]
  exact int_text_length_le10 (k := 12) (by decide) h
theorem int_log {i : Int} (h : i.natAbs < 10 ^ 12) : i.natAbs.log2 < 40 := log_lt (by decide) (Nat.lt_trans h (by decide))
mutual
theorem pl_pd {N : Nat} (hN : N ≤ 10 ^ 12) : ∀ d : D, pl N d = true → ∃ p, d.pd = some p ∧ p.showable = true ∧ p.hasDict = false ∧ p.canLay0 = true ∧ p.depth = dep d ∧ p.weight ≤ wt d ∧ p.leavesShort 13 = true
  | .non, _ => ⟨.none, rfl, by unfold PyData.showable; rfl, by unfold PyData.hasDict; rfl, by unfold PyData.canLay0; rfl, by unfold PyData.depth dep; rfl, by unfold PyData.weight; exact Nat.zero_le _, by unfold PyData.leavesShort; rfl⟩
  | .bl b, _ => ⟨.bool b, rfl, by unfold PyData.showable; rfl, by unfold PyData.hasDict; rfl, by unfold PyData.canLay0; rfl, by unfold PyData.depth dep; rfl, by unfold PyData.weight; exact Nat.zero_le _, by unfold PyData.leavesShort; rfl⟩
  | .int i, h => ⟨.int i, rfl, by
      have := int_log (Nat.lt_of_lt_of_le (pl_int h) hN)
      unfold PyData.showable; exact decide_eq_true (by omega), by unfold PyData.hasDict; rfl, by unfold PyData.canLay0; rfl, by unfold PyData.depth dep; rfl, by
      have := int_log (Nat.lt_of_lt_of_le (pl_int h) hN)
      unfold PyData.weight wt
      split <;> omega, by
      have := short_int (Nat.lt_of_lt_of_le (pl_int h) hN)
      unfold PyData.leavesShort
      exact decide_eq_true this⟩
  | .str x, h => ⟨.str x, rfl, by unfold PyData.showable; rfl, by unfold PyData.hasDict; rfl, by
      unfold PyData.canLay0; unfold pl at h; exact h, by unfold PyData.depth dep; rfl, by unfold PyData.weight wt; exact Nat.le_refl _, by
      unfold PyData.leavesShort
      unfold pl at h
      rw [← Array.all_toList, List.all_eq_true] at h
      rw [List.all_eq_true]
      intro c hc
      have := of_decide_eq_true (h c hc)
      exact decide_eq_true (Nat.lt_trans this (by decide))⟩
  | .tup xs, h => by
    unfold pl at h
    obtain ⟨ps, e, h1, h2, h3, h4, h5, h6⟩ := pls_pds hN xs h
    refine ⟨.tuple ps, by unfold D.pd; rw [e]; rfl, by unfold PyData.showable; exact h1, by unfold PyData.hasDict; exact h2, by unfold PyData.canLay0; exact h3, by unfold PyData.depth dep; rw [h4], by unfold PyData.weight wt; exact h5, by unfold PyData.leavesShort; exact h6⟩
  | .lst xs, h => by
    unfold pl at h
    obtain ⟨ps, e, h1, h2, h3, h4, h5, h6⟩ := pls_pds hN xs h
    refine ⟨.list ps, by unfold D.pd; rw [e]; rfl, by unfold PyData.showable; exact h1, by unfold PyData.hasDict; exact h2, by unfold PyData.canLay0; exact h3, by unfold PyData.depth dep; rw [h4], by unfold PyData.weight wt; exact h5, by unfold PyData.leavesShort; exact h6⟩
  | .dct _, h => by unfold pl at h; cases h
  | .st _, h => by unfold pl at h; cases h
  | .ref _, h => by unfold pl at h; cases h
  | .fn _, h => by unfold pl at h; cases h
  | .ty _, h => by unfold pl at h; cases h
  | .scr _, h => by unfold pl at h; cases h
theorem pls_pds {N : Nat} (hN : N ≤ 10 ^ 12) : ∀ ds : List D, pls N ds = true → ∃ ps, D.pds ds = some ps ∧ PyData.showableAll ps = true ∧ PyData.hasDictAll ps = false ∧ PyData.canLayAll0 ps = true ∧ PyData.depthAll ps = deps ds ∧ PyData.weightAll ps ≤ wts ds ∧ PyData.leavesShortAll 13 ps = true
  | [], _ => ⟨[], rfl, by unfold PyData.showableAll; rfl, by unfold PyData.hasDictAll; rfl, by unfold PyData.canLayAll0; rfl, by unfold PyData.depthAll deps; rfl, by unfold PyData.weightAll; exact Nat.zero_le _, by unfold PyData.leavesShortAll; rfl⟩
  | x :: xs, h => by
    unfold pls at h
    obtain ⟨ha, hb⟩ := Bool.and_eq_true_iff.mp h
    obtain ⟨p, e, h1, h2, h3, h4, h5, h6⟩ := pl_pd hN x ha
    obtain ⟨ps, e', k1, k2, k3, k4, k5, k6⟩ := pls_pds hN xs hb
    refine ⟨p :: ps, by unfold D.pds; rw [e, e'], by unfold PyData.showableAll; rw [h1, k1]; rfl, by unfold PyData.hasDictAll; rw [h2, k2]; rfl, by unfold PyData.canLayAll0; rw [h3, k3]; rfl, by unfold PyData.depthAll deps; rw [h4, k4], by unfold PyData.weightAll wts; omega, by unfold PyData.leavesShortAll; rw [h6, k6]; rfl⟩
end
mutual
theorem pl_up {N N' : Nat} (hN : N ≤ N') : ∀ d : D, pl N d = true → pl N' d = true
  | .non, _ => by unfold pl; rfl
  | .bl _, _ => by unfold pl; rfl
  | .int i, h => by unfold pl; exact decide_eq_true (Nat.lt_of_lt_of_le (pl_int h) hN)
  | .str x, h => by unfold pl at h ⊢; exact h
  | .tup xs, h => by unfold pl at h ⊢; exact pls_up hN xs h
  | .lst xs, h => by unfold pl at h ⊢; exact pls_up hN xs h
  | .dct _, h => by unfold pl at h; cases h
  | .st _, h => by unfold pl at h; cases h
  | .ref _, h => by unfold pl at h; cases h
  | .fn _, h => by unfold pl at h; cases h
  | .ty _, h => by unfold pl at h; cases h
  | .scr _, h => by unfold pl at h; cases h
theorem pls_up {N N' : Nat} (hN : N ≤ N') : ∀ ds : List D, pls N ds = true → pls N' ds = true
  | [], _ => by unfold pls; rfl
  | x :: xs, h => by
    unfold pls at h ⊢
    obtain ⟨ha, hb⟩ := Bool.and_eq_true_iff.mp h
    rw [pl_up hN x ha, pls_up hN xs hb]
    rfl
end
/-- may be shown -/
def Gd (N n w : Nat) (d : D) : Prop := pl N d = true ∧ dep d ≤ n ∧ wt d ≤ w
def Gds (N n w : Nat) (ds : List D) : Prop := pls N ds = true ∧ deps ds ≤ n ∧ wts ds ≤ w
theorem Gd.up {N N' n w : Nat} {d : D} (h : Gd N n w d) (hN : N ≤ N') : Gd N' n w d := ⟨pl_up hN d h.1, h.2⟩
theorem Gd.le {N n w n' w' : Nat} {d : D} (h : Gd N n w d) (h1 : n ≤ n') (h2 : w ≤ w') : Gd N n' w' d := ⟨h.1, Nat.le_trans h.2.1 h1, Nat.le_trans h.2.2 h2⟩
theorem Gds.le {N n w n' w' : Nat} {d : List D} (h : Gds N n w d) (h1 : n ≤ n') (h2 : w ≤ w') : Gds N n' w' d := ⟨h.1, Nat.le_trans h.2.1 h1, Nat.le_trans h.2.2 h2⟩
theorem Gd.tup {N n w : Nat} {ds : List D} (h : Gds N n w ds) : Gd N (n + 1) w (.tup ds) := ⟨by unfold pl; exact h.1, by unfold dep; exact Nat.succ_le_succ h.2.1, by unfold wt; exact h.2.2⟩
theorem Gd.lst {N n w : Nat} {ds : List D} (h : Gds N n w ds) : Gd N (n + 1) w (.lst ds) := ⟨by unfold pl; exact h.1, by unfold dep; exact Nat.succ_le_succ h.2.1, by unfold wt; exact h.2.2⟩
theorem Gds.nil {N n w : Nat} : Gds N n w [] := ⟨by unfold pls; rfl, by unfold deps; omega, by unfold wts; omega⟩
theorem Gds.cons {N n w w' : Nat} {d : D} {ds : List D} (h : Gd N n w d) (h' : Gds N n w' ds) : Gds N n (w + 1 + w') (d :: ds) := by
  obtain ⟨a, b, c⟩ := h
  obtain ⟨a', b', c'⟩ := h'
  exact ⟨by unfold pls; rw [a, a']; rfl, by unfold deps; omega, by unfold wts; omega⟩
theorem Gds.app {N n w w' : Nat} : ∀ {as bs : List D}, Gds N n w as → Gds N n w' bs → Gds N n (w + w') (as ++ bs)
  | [], bs, _, h => h.le (Nat.le_refl _) (by omega)
  | a :: as, bs, ⟨h1, h2, h3⟩, h' => by
    unfold pls at h1; unfold deps at h2; unfold wts at h3
    obtain ⟨ha, hb⟩ := Bool.and_eq_true_iff.mp h1
    have := Gds.app (as := as) (w := w - (wt a + 1)) ⟨hb, by omega, by omega⟩ h'
    exact (Gds.cons ⟨ha, Nat.le_trans (Nat.le_max_left _ _) h2, Nat.le_refl _⟩ this).le (Nat.le_refl _) (by omega)
theorem Gds.sub {N n w : Nat} {as bs : List D} (h : List.Sublist as bs) : Gds N n w bs → Gds N n w as := by
  induction h generalizing w with
  | slnil => exact id
  | cons a h ih =>
    rintro ⟨h1, h2, h3⟩
    unfold pls at h1; unfold deps at h2; unfold wts at h3
    exact ih ⟨(Bool.and_eq_true_iff.mp h1).2, by omega, by omega⟩
  | cons_cons a h ih =>
    rintro ⟨h1, h2, h3⟩
    unfold pls at h1; unfold deps at h2; unfold wts at h3
    have := ih (w := w - (wt a + 1)) ⟨(Bool.and_eq_true_iff.mp h1).2, by omega, by omega⟩
    exact (Gds.cons ⟨(Bool.and_eq_true_iff.mp h1).1, Nat.le_trans (Nat.le_max_left _ _) h2, Nat.le_refl _⟩ this).le (Nat.le_refl _) (by omega)
theorem Gds.mem {N n w : Nat} {d : D} : ∀ {ds : List D}, Gds N n w ds → d ∈ ds → Gd N n w d
  | a :: as, ⟨h1, h2, h3⟩, hm => by
    unfold pls at h1; unfold deps at h2; unfold wts at h3
    obtain ⟨ha, hb⟩ := Bool.and_eq_true_iff.mp h1
    rcases List.mem_cons.mp hm with rfl | hm
    · exact ⟨ha, by omega, by omega⟩
    · exact (Gds.mem (ds := as) (w := w - (wt a + 1)) ⟨hb, by omega, by omega⟩ hm).le (Nat.le_refl _) (by omega)
theorem Gds.rev {N n w : Nat} {ds : List D} (h : Gds N n w ds) : Gds N n w ds.reverse := by
  induction ds generalizing w with
  | nil => exact h
  | cons a as ih =>
    obtain ⟨h1, h2, h3⟩ := h
    unfold pls at h1; unfold deps at h2; unfold wts at h3
    obtain ⟨ha, hb⟩ := Bool.and_eq_true_iff.mp h1
    rw [List.reverse_cons]
    exact (Gds.app (ih (w := w - (wt a + 1)) ⟨hb, by omega, by omega⟩) (Gds.cons (w := wt a) (w' := 0) ⟨ha, by omega, Nat.le_refl _⟩ Gds.nil)).le (Nat.le_refl _) (by omega)
/-- one of the row is put in another's stead -/
theorem Gds.set {N n n' w w' : Nat} {d d' : D} : ∀ {ds : List D} {i : Nat}, Gds N n w ds → n ≤ n' → ds[i]? = some d → Gd N n' w' d' → Gds N n' (w - wt d + w') (ds.set i d')
  | a :: as, 0, ⟨h1, h2, h3⟩, hn, e, hd => by
    unfold pls at h1; unfold deps at h2; unfold wts at h3
    cases e
    exact (Gds.cons hd (w' := w - (wt d + 1)) ⟨(Bool.and_eq_true_iff.mp h1).2, by omega, by omega⟩).le (Nat.le_refl _) (by omega)
  | a :: as, i + 1, ⟨h1, h2, h3⟩, hn, e, hd => by
    unfold pls at h1; unfold deps at h2; unfold wts at h3
    have e' : as[i]? = some d := e
    have hg : Gds N n (w - (wt a + 1)) as := ⟨(Bool.and_eq_true_iff.mp h1).2, Nat.le_trans (Nat.le_max_right _ _) h2, by omega⟩
    have := Gds.set (ds := as) (i := i) hg hn e' hd
    have hw := (hg.mem (List.mem_of_getElem? e')).2.2
    exact (Gds.cons (w := wt a) ⟨(Bool.and_eq_true_iff.mp h1).1, Nat.le_trans (Nat.le_trans (Nat.le_max_left _ _) h2) hn, Nat.le_refl _⟩ this).le (Nat.le_refl _) (by omega)
theorem gd_int {N n : Nat} {i : Int} (h : i.natAbs < N) : Gd N n 40 (.int i) := ⟨by unfold pl; exact decide_eq_true h, by unfold dep; omega, by unfold wt; omega⟩
theorem gd_str {N n w : Nat} {x : Str} (h : x.cps.all (· < 0x110000) = true) (hw : x.cps.size ≤ w) : Gd N n w (.str x) := ⟨by unfold pl; exact h, by unfold dep; omega, by unfold wt; exact hw⟩
theorem go_repr {N n w : Nat} {d : D} {st : Store} {P : D → Store → Prop} (h : Gd N n w d) (hN : N ≤ 10 ^ 12) (hn : n ≤ 64) (hw : w ≤ 1000000) (q : ∀ p, d.pd = some p → P (.str p.shown) st) : (reprD [d] st).holds E P := by
  obtain ⟨p, e, h1, h2, h3, h4, h5, h6⟩ := pl_pd hN d h.1
  have hd := h.2.1
  have hw' := h.2.2
  have h20 : (2 : Nat) ^ 20 = 1048576 := by decide
  have hb := PyData.shown_fits (by decide) (by decide) h6 (show p.weight ≤ 2 ^ 20 by omega)
  show Res.holds (match pdR st d with
    | some d => if d.showable = true ∧ d.hasDict = false ∧ d.depth ≤ 64 ∧ d.shown.length ≤ sizeLine then .ok (.str d.shown) st else .stuck
    | none => .stuck) E P
  rw [pdR_of e]
  have hh : p.showable = true ∧ p.hasDict = false ∧ p.depth ≤ 64 ∧ p.shown.length ≤ sizeLine := ⟨h1, h2, by omega, hb⟩
  simp only [if_pos hh]
  exact q p e
/-- the text of what is shown -/
def shw (d : D) : Str := match d.pd with
  | some p => p.shown
  | none => ""
theorem go_shw {N n w : Nat} {d : D} {st : Store} {P : D → Store → Prop} (h : Gd N n w d) (hN : N ≤ 10 ^ 12) (hn : n ≤ 64) (hw : w ≤ 1000000) (q : P (.str (shw d)) st) : (reprD [d] st).holds E P :=
  go_repr h hN hn hw fun p e => by
    unfold shw at q
    rw [e] at q
    exact q
theorem Gds.len {N n w : Nat} : ∀ {ds : List D}, Gds N n w ds → ds.length ≤ w
  | [], _ => Nat.zero_le _
  | a :: as, ⟨h1, h2, h3⟩ => by
    unfold pls at h1; unfold deps at h2; unfold wts at h3
    have := Gds.len (ds := as) (N := N) (n := n) (w := w - (wt a + 1)) ⟨(Bool.and_eq_true_iff.mp h1).2, by omega, by omega⟩
    rw [List.length_cons]
    omega
theorem cut_sub {α : Type} (xs : List α) (lo hi : Option Int) : List.Sublist (cutD xs lo hi) xs := (List.take_sublist _ _).trans (List.drop_sublist _ _)
section
variable {Q R : Prop}
theorem go_tt (q : Q) : (true = true → Q) ∧ (true = false → R) := ⟨fun _ => q, fun h => nomatch h⟩
theorem go_ff (q : R) : (false = true → Q) ∧ (false = false → R) := ⟨fun h => (nomatch h), fun _ => q⟩
theorem go_ntt (q : R) : ((!true) = true → Q) ∧ ((!true) = false → R) := ⟨fun h => (nomatch h), fun _ => q⟩
theorem go_nff (q : Q) : ((!false) = true → Q) ∧ ((!false) = false → R) := ⟨fun _ => q, fun h => nomatch h⟩
theorem go_dt {p : Prop} [Decidable p] (hp : p) (q : Q) : (decide p = true → Q) ∧ (decide p = false → R) := ⟨fun _ => q, fun h => absurd hp (of_decide_eq_false h)⟩
theorem go_df {p : Prop} [Decidable p] (hp : ¬p) (q : R) : (decide p = true → Q) ∧ (decide p = false → R) := ⟨fun h => absurd (of_decide_eq_true h) hp, fun _ => q⟩
theorem go_d {p : Prop} [Decidable p] (q : p → Q) (r : ¬p → R) : (decide p = true → Q) ∧ (decide p = false → R) := ⟨fun h => q (of_decide_eq_true h), fun h => r (of_decide_eq_false h)⟩
theorem go_ndt {p : Prop} [Decidable p] (hp : p) (q : R) : ((!decide p) = true → Q) ∧ ((!decide p) = false → R) := ⟨fun h => by simp [hp] at h, fun _ => q⟩
theorem go_ndf {p : Prop} [Decidable p] (hp : ¬p) (q : Q) : ((!decide p) = true → Q) ∧ ((!decide p) = false → R) := ⟨fun _ => q, fun h => by simp [hp] at h⟩
theorem go_nd {p : Prop} [Decidable p] (q : ¬p → Q) (r : p → R) : ((!decide p) = true → Q) ∧ ((!decide p) = false → R) := ⟨fun h => q (by simpa using h), fun h => r (by simpa using h)⟩
end
theorem go_isiT {x : D} {T a : String} {st : Store} {P : D → Store → Prop} (h : tyName x = some a) (hT : T ∈ tyKnown) (hb : isTy a T = true) (q : P (.bl true) st) : (isiD [x, .ty T] st).holds E P := go_isi h hT (by rw [hb]; exact q)
theorem go_isiF {x : D} {T a : String} {st : Store} {P : D → Store → Prop} (h : tyName x = some a) (hT : T ∈ tyKnown) (hb : isTy a T = false) (q : P (.bl false) st) : (isiD [x, .ty T] st).holds E P := go_isi h hT (by rw [hb]; exact q)
theorem go_isi2T {x : D} {T T' a : String} {st : Store} {P : D → Store → Prop} (h : tyName x = some a) (hT : T ∈ tyKnown ∧ T' ∈ tyKnown) (hb : (isTy a T || isTy a T') = true) (q : P (.bl true) st) : (isiD [x, .tup [.ty T, .ty T']] st).holds E P := go_isi2 h hT (by rw [hb]; exact q)
theorem go_isi2F {x : D} {T T' a : String} {st : Store} {P : D → Store → Prop} (h : tyName x = some a) (hT : T ∈ tyKnown ∧ T' ∈ tyKnown) (hb : (isTy a T || isTy a T') = false) (q : P (.bl false) st) : (isiD [x, .tup [.ty T, .ty T']] st).holds E P := go_isi2 h hT (by rw [hb]; exact q)
theorem cut_len {α : Type} (xs : List α) (lo hi : Option Int) : (cutD xs lo hi).length ≤ xs.length := (cut_sub xs lo hi).length_le
section
variable {xs : List D} {st : Store} {P : D → Store → Prop} {lo hi lo' hi' : Option Int}
theorem go_slT {Q : D → Prop} (q : Q (.tup (cutD xs lo hi))) : ∃ d, slF (.tup xs) lo hi = some d ∧ Q d := ⟨_, rfl, q⟩
theorem go_slL {Q : D → Prop} (q : Q (.lst (cutD xs lo hi))) : ∃ d, slF (.lst xs) lo hi = some d ∧ Q d := ⟨_, rfl, q⟩
theorem go_addCT (h : xs.length ≤ 50000) (q : P (.tup (cutD xs lo hi ++ cutD xs lo' hi')) st) : (addD (.tup (cutD xs lo hi)) (.tup (cutD xs lo' hi')) st).holds E P :=
  go_addT (by have := cut_len xs lo hi; have := cut_len xs lo' hi'; omega) q
theorem go_addCL (h : xs.length ≤ 50000) (q : P (.lst (cutD xs lo hi ++ cutD xs lo' hi')) st) : (addD (.lst (cutD xs lo hi)) (.lst (cutD xs lo' hi')) st).holds E P :=
  go_addL (by have := cut_len xs lo hi; have := cut_len xs lo' hi'; omega) q
end
section
variable {F : List D → Store → Res D} {st : Store} {P : D → Store → Prop} {a b c d e f : D}
theorem go_fn1 (q : (F [a] st).holds E P) : (fnN 1 F [a] st).holds E P := go_fnN rfl q
theorem go_fn2 (q : (F [a, b] st).holds E P) : (fnN 2 F [a, b] st).holds E P := go_fnN rfl q
theorem go_fn3 (q : (F [a, b, c] st).holds E P) : (fnN 3 F [a, b, c] st).holds E P := go_fnN rfl q
theorem go_fn4 (q : (F [a, b, c, d] st).holds E P) : (fnN 4 F [a, b, c, d] st).holds E P := go_fnN rfl q
theorem go_fn5 (q : (F [a, b, c, d, e] st).holds E P) : (fnN 5 F [a, b, c, d, e] st).holds E P := go_fnN rfl q
theorem go_fn6 (q : (F [a, b, c, d, e, f] st).holds E P) : (fnN 6 F [a, b, c, d, e, f] st).holds E P := go_fnN rfl q
end
theorem go_appN {nx br ct : NX} {rt : RT} {env : En} {st : Store} {fe : En → Store → Res D} {i : Nat} {ds : List D} (h : env[i]? = some (.ol ds)) (hn : ds.length < 1000) (q : (fe env st).holds (atE Ee env) fun d st => nx (env.set i (.ol (ds ++ [d]))) st) : (sApp i fe env st).runs Ee nx rt br ct :=
  go_app h (q.imp fun d st h => ⟨Nat.lt_of_lt_of_le hn line1000, h⟩)
end EV
set_option Elab.async false
set_option linter.all false
set_option autoImplicit false
set_option maxRecDepth 100000
set_option maxHeartbeats 400000
/-! more rules: a dict of the module, a def held by a name, a starred target, in, ranges as lists, tuples repeated -/
namespace EV
open PySem PySem.Spec PyProof.Rows L2
/-! ### the module's dict of defs -/
def lkS (kvs : List (Str × Str)) (z : Str) : Option Str := (kvs.find? fun p => p.1 == z).map (·.2)
def kdIx (kvs : List (Str × Str)) : D → Store → Res D := fun y st => match y with
  | .str z => match lkS kvs z with
    | some f => .ok (.fn f) st
    | none => .stuck
  | _ => .stuck
def kdIn (kvs : List (Str × Str)) : D → Store → Res D := fun y st => match y with
  | .str z => .ok (.bl (lkS kvs z).isSome) st
  | _ => .stuck
section
variable {X : Cx} {W : Wi} {x : Str} {p pos : Pos} {a b e : Expr} {es : List Expr} {kvs : List (Str × Str)} {fa fb : En → Store → Res D} {fl : En → Store → Res (List D)}
/-! ### a def that a name holds -/
abbrev DefTab := List (Str × List Str × (List D → Store → Res D))
def tabF (tb : DefTab) (y : Str) : Option (List Str × (List D → Store → Res D)) := (tb.find? fun p => p.1 == y).map (·.2)
def vCallL (i : Nat) (tb : DefTab) (fa : En → Store → Res (List D)) : En → Store → Res D := fun env st => match env[i]? with
  | some (.vl (.fn y)) => match tabF tb y with
    | some (ps, F) => (fa env st).bind (fnN ps.length F)
    | none => .stuck
  | _ => .stuck
def TabOk (P : Program) (w : World) (K : PySem.W.Frag) (mg : Str → Option Value) (base : Heap) (k : Nat) : DefTab → Prop
  | [] => True
  | p :: tb => DefOk P w K mg base p.1 k p.2.1 p.2.2 ∧ TabOk P w K mg base k tb
theorem TabOk.at_ {P : Program} {w : World} {K : PySem.W.Frag} {mg : Str → Option Value} {base : Heap} {k : Nat} {y : Str} {ps : List Str} {F : List D → Store → Res D} : ∀ {tb : DefTab}, TabOk P w K mg base k tb → tabF tb y = some (ps, F) → DefOk P w K mg base y k ps F
  | [], _, e => by cases e
  | p :: tb, ⟨h, t⟩, e => by
    unfold tabF at e
    rw [List.find?_cons] at e
    cases hz : (p.1 == y) with
    | true =>
      rw [hz] at e
      have e1 : p.2 = (ps, F) := Option.some.inj e
      have e2 : p.1 = y := by simpa using hz
      obtain ⟨x, ps', F'⟩ := p
      cases e1
      cases e2
      exact h
    | false =>
      rw [hz] at e
      exact TabOk.at_ t e
end
/-! ### in -/
def inB (x : D) (ys : List D) : Option Bool := match x.pd, D.pds ys with
  | some a, some bs => if SeqAt.shaped a = true ∧ SeqAt.shaped (.list bs) = true then some (bs.any fun z => PyData.eqv z a) else none
  | _, _ => none
/-- in a dict, by its keys -/
def kindOf (st : Store) : D → List (DK × D) → Option Bool
  | .ref n, _ => match st[n]? with
    | some (.cell (.od t _)) => some t
    | _ => none
  | _, (k, _) :: _ => some k.isT
  | _, [] => none
def inKv (st : Store) (x y : D) (kvs : List (DK × D)) : Option Bool := match dkOf x, kindOf st y kvs with
  | some k, some t => if k.isT = t then some (lkD kvs k).isSome else none
  | _, _ => none
/-- in a list, frozen or of the store, in a tuple, in a dict -/
def inX (st : Store) (x y : D) : Option Bool := match dictOf st y with
  | some kvs => inKv st x y kvs
  | none => match y with
    | .lst ys => inB x ys
    | .ref n => match st[n]? with
      | some (.cell (.ol ys)) => inB x ys
      | _ => none
    | _ => none
def notinD : D → D → Store → Res D := fun x y st => match inX st x y with
  | some b => .ok (.bl (!b)) st
  | none => .stuck
section
variable {X : Cx}
theorem in_cases {K : PySem.W.Frag} {mg : Str → Option Value} {g : G} {st : Store} {H : Hp} (S : SOk K mg g st H) {x y : D} {vx vy : V} {b : Bool} (rx : Rep K mg g x vx) (ry : Rep K mg g y vy) (e : inX st x y = some b) :
    (∃ d ds, Dp K H vx d ∧ Dp K H vy (.list ds) ∧ SeqAt.shaped d = true ∧ SeqAt.shaped (.list ds) = true ∧ (ds.any fun z => PyData.eqv z d) = b) ∨ ∃ a kvs o k, vy = .ref a ∧ Rd H a o ∧ RepD K mg g kvs o ∧ dkOf x = some k ∧ HO.isD k.isT o ∧ (lkD kvs k).isSome = b := by
  have fin : ∀ {ys : List D} {vs : List V}, RepL K mg g ys vs → inB x ys = some b → ∃ d ds, Dp K H vx d ∧ DpAll K H vs ds ∧ SeqAt.shaped d = true ∧ SeqAt.shaped (.list ds) = true ∧ (ds.any fun z => PyData.eqv z d) = b := by
    intro ys vs rl e
    unfold inB at e
    split at e
    · next a bs h1 h2 =>
      split at e
      · next h =>
        cases e
        exact ⟨a, bs, rx.dp S h1, rl.dp S h2, h.1, h.2, rfl⟩
      · cases e
    · cases e
  unfold inX at e
  split at e
  · next kvs hkv =>
    unfold inKv at e
    split at e
    · next k t hk ht =>
      split at e
      · next hkt =>
        cases e
        cases y with
        | ref n =>
          have ht : (match st[n]? with | some (.cell (.od t _)) => some t | _ => none) = some k.isT := ht.trans (by rw [hkt])
          have hkv : (match st[n]? with | some (.cell (.od _ kvs)) => some kvs | _ => none) = some kvs := hkv
          split at ht
          · next t' kv2 hs =>
            cases ht
            obtain ⟨a, rfl, q1, q2⟩ := S.cellAt ry hs
            rw [hs] at hkv
            cases hkv
            cases q2 with
            | od h3 rd hd _ => exact .inr ⟨a, _, _, k, rfl, .inl h3, rd, hk, hd, rfl⟩
          · cases ht
        | dct kv2 =>
          have hkv : kv2 = kvs := Option.some.inj hkv
          subst hkv
          cases kv2 with
          | nil => cases ht
          | cons p r0 =>
            obtain ⟨k0, d0⟩ := p
            have ht : some k0.isT = some t := ht
            cases ht
            obtain ⟨a, o, rfl, h1, h2⟩ := S.dictAt (x := .dct ((k0, d0) :: r0)) (kvs := (k0, d0) :: r0) ry rfl
            refine .inr ⟨a, _, o, k, rfl, h1, h2, hk, ?_, rfl⟩
            rw [hkt]
            cases h2 with
            | consK _ _ => trivial
            | consT _ _ => trivial
        | _ => cases hkv
      · cases e
    · cases e
  · split at e
    · cases ry with
      | lst h rl =>
        obtain ⟨d, ds, h1, h2, h3, h4, h5⟩ := fin rl e
        exact .inl ⟨d, ds, h1, .lst (SqL.of (S.kp _ _ h)) h2, h3, h4, h5⟩
    · split at e
      · next n ys hs =>
        obtain ⟨a, rfl, q1, q2⟩ := S.cellAt ry hs
        cases q2 with
        | ol h3 rl =>
          obtain ⟨d, ds, h1, h2, h3', h4, h5⟩ := fin rl e
          exact .inl ⟨d, ds, h1, .lst (SqL.of h3) h2, h3', h4, h5⟩
      · cases e
    · cases e
/-- a dict asked by a key of its kind, or one that it can't have -/
theorem dget_any {g : G} {K : PySem.W.Frag} {mg : Str → Option Value} {st : Store} {H : Hp} (S : SOk K mg g st H) {x : D} {vx : V} {k : DK} {a : Addr} {kvs : List (DK × D)} {o : HO} (rx : Rep K mg g x vx) (hk : dkOf x = some k) (h1 : Rd H a o) (h2 : RepD K mg g kvs o) (ht : HO.isD k.isT o) :
    ∃ ov, DGet H a vx ov ∧ ov.isSome = (lkD kvs k).isSome := by
  have q := key_rep S rx hk
  cases k with
  | k z =>
    have q : vx = kV z := q
    subst q
    cases o with
    | dK zs =>
      obtain ⟨w1, w2⟩ := h2.getK (x := z)
      refine ⟨_, .inl ⟨zs, z, h1, rfl, rfl⟩, ?_⟩
      cases e : lkD kvs (.k z) with
      | none => rw [w2 e]; rfl
      | some d => obtain ⟨v, e2, _⟩ := w1 d e; rw [e2]; rfl
    | _ => exact (ht : False).elim
  | t zs =>
    obtain ⟨b, rfl, hb⟩ := q
    cases o with
    | dT ws =>
      obtain ⟨w1, w2⟩ := h2.getT (x := zs)
      refine ⟨_, .inr ⟨ws, zs, b, h1, rfl, hb, rfl⟩, ?_⟩
      cases e : lkD kvs (.t zs) with
      | none => rw [w2 e]; rfl
      | some d => obtain ⟨v, e2, _⟩ := w1 d e; rw [e2]; rfl
    | _ => exact (ht : False).elim
theorem o_notin {k : Nat} (hr : Rm k X.A) : Op2 X (compareOp .NotIn) notinD := fun W pins s σ H g st x y vx vy u w Q I S rx ry ru rw q => by
  unfold notinD at q
  split at q
  · next b e =>
    rcases in_cases S rx ry e with ⟨d, ds, h1, h2, h3, h4, h5⟩ | ⟨a, kvs, o, k, rfl, h1, h2, h3, ht, h4⟩
    · exact op_notInD (by have := hr.room.un; omega) pins s σ H _ _ u w Q I ru rw ⟨d, ds, h1, h2, h3, h4, by rw [h5]; exact q.here (.bl _) S⟩
    · obtain ⟨ov, w1, w2⟩ := dget_any S rx h3 h1 h2 ht
      cases rw
      refine d_notIn (by have := hr.room.un; omega) I w1 ru fun s' I' => ⟨.bl (!b), H, I', ?_, q.here (.bl _) S⟩
      rw [w2, h4]; rfl
  · exact q.elim
end
/-! ### a tuple repeated -/
def repD : D → D → Store → Res D := fun x y st => match x, y with
  | .tup xs, .int k => if xs ≠ [] ∧ 2 ≤ k ∧ k ≤ 1000 ∧ xs.length ≤ 1000 then .ok (.tup (List.replicate k.toNat xs).flatten) st else .stuck
  | _, _ => .stuck
/-! ### list(range(..)) -/
def lrng2 : D → D → Store → Res Slot := fun x y st => match x, y with
  | .int a, .int b => if -(2 ^ 62) ≤ a ∧ a < 2 ^ 62 ∧ -(2 ^ 62) ≤ b ∧ b < 2 ^ 62 ∧ (b - a).toNat ≤ 2 ^ 24 then .ok (.ol (rngD a (b - a).toNat)) st else .stuck
  | _, _ => .stuck
def lrng1 : D → Store → Res Slot := fun y st => lrng2 (.int 0) y st
/-! ### a starred target -/
section
variable {X : Cx} {W : Wi} {pos : Pos}
/-- a, *b, c = a tuple: the starred name takes a list that is not changed later -/
def gStar (i : Nat) (ps : List Pat) : D → En → Store → ResS := fun d env st => match d with
  | .tup ds => if i < ps.length ∧ ps.length ≤ ds.length + 1 ∧ ds.length ≤ 16384 then
      (match Pat.binds ps (ds.take i ++ [.lst ((ds.drop i).take (ds.length + 1 - ps.length))] ++ (ds.drop i).drop (ds.length + 1 - ps.length)) with
      | some bs => .nx (bindE env bs) st
      | none => .stuck) else .stuck
  | _ => .stuck
end
/-! ### comprehensions of one clause, said for the printer -/
section
variable {X : Cx} {W : Wi}
theorem s_lc0 {elt tg iter : Expr} {scope sc0 : Scope} {N0 : List Str} {own : List (Str × Nat)} {spos : Pos} {p : Pat} {fi : En → Store → Res (List D)} {te : En → Store → Res D} (hc : X.calm = true) (hN : X.N.Nodup) (hi : IE X W tg iter fi) (ok : blkC N0 sc0 scope own = true) (hN0 : X.N = N0) (hs0 : X.env.scope = sc0) (hp : ∀ i ∈ p.slots, i ∈ own.map (·.2))
    (hg : ∀ (s : Shared) (H : Hp) (C : Addr) (cl : List (Str × Addr)) (fp : List Addr), PG (X.blk s H scope (compEnvC scope cl C X.env) fp) tg (Pat.tg X.K p))
    (he : ∀ (s : Shared) (H : Hp) (C : Addr) (cl : List (Str × Addr)) (fp : List Addr), EE (X.blk s H scope (compEnvC scope cl C X.env) fp) W0 elt te) (hs : ∀ x, foldedSetIterable iter X.env x = pure x := by intro _; rfl) : SE X W (.ListComp elt [⟨tg, iter, [], 0⟩] scope spos) (vLc fi p (own.map (·.2)) ttYes te) := s_lc hc hN hi (blkOk_by (by rw [hN0, hs0]; exact ok)) hp hg ts_nil he hs
end
end EV
set_option Elab.async false
set_option linter.all false
set_option autoImplicit false
set_option maxRecDepth 100000
set_option maxHeartbeats 400000
/-! the calculus for EvK -/
namespace EV
open PySem PySem.Spec PyProof.Rows L2
variable {E : ErP} {Ee : ErS}
section
variable {st : Store} {env : En} {P : D → Store → Prop} {PS : Slot → Store → Prop} {PL : List D → Store → Prop} {kvs : List (Str × Str)} {z f : Str} {nx br ct : NX} {rt : RT}
theorem go_kdIx (h : lkS kvs z = some f) (q : P (.fn f) st) : (kdIx kvs (.str z) st).holds E P := by
  unfold kdIx
  simp only [h]
  exact q
theorem go_kdIn (q : P (.bl (lkS kvs z).isSome) st) : (kdIn kvs (.str z) st).holds E P := q
theorem tab_hd {y : Str} {ps : List Str} {F : List D → Store → Res D} {tb : DefTab} : tabF ((y, ps, F) :: tb) y = some (ps, F) := by
  unfold tabF
  rw [List.find?_cons]
  simp
theorem tab_tl {k y : Str} {v : List Str × (List D → Store → Res D)} {r : Option (List Str × (List D → Store → Res D))} {tb : DefTab} (h : (k == y) = false) (h2 : tabF tb y = r) : tabF ((k, v) :: tb) y = r := by
  unfold tabF at h2 ⊢
  rw [List.find?_cons, h]
  exact h2
theorem go_callL {i : Nat} {tb : DefTab} {fa : En → Store → Res (List D)} {y : Str} {ps : List Str} {F : List D → Store → Res D} (h : env[i]? = some (.vl (.fn y))) (ht : tabF tb y = some (ps, F)) (q : (fa env st).holds E fun ds st => ds.length = ps.length ∧ (F ds st).holds E P) : (vCallL i tb fa env st).holds E P := by
  unfold vCallL
  simp only [h, ht]
  rw [Res.holds_bind]
  exact q.imp fun ds st h => go_fnN h.1 h.2
theorem go_lenEq {α β : Type} {xs : List α} {ys : List β} {Q : Prop} (h : xs.length = ys.length) (q : Q) : xs.length = ys.length ∧ Q := ⟨h, q⟩
theorem go_star {d : D} {i : Nat} {ps : List Pat} {ds : List D} {bs : List (Nat × D)} (hd : d = .tup ds) (hb : i < ps.length ∧ ps.length ≤ ds.length + 1 ∧ ds.length ≤ 16384)
    (h : Pat.binds ps (ds.take i ++ [.lst ((ds.drop i).take (ds.length + 1 - ps.length))] ++ (ds.drop i).drop (ds.length + 1 - ps.length)) = some bs) (q : nx (bindE env bs) st) : (gStar i ps d env st).runs Ee nx rt br ct := by
  subst hd
  unfold gStar
  simp only [if_pos hb, h]
  exact q
theorem go_lrng2 {a b : Int} (h : -1000000 ≤ a ∧ a ≤ 1000000 ∧ -1000000 ≤ b ∧ b ≤ 1000000) (q : PS (.ol (rngD a (b - a).toNat)) st) : (lrng2 (.int a) (.int b) st).holds E PS := by
  unfold lrng2
  have e : -(2 ^ 62) ≤ a ∧ a < 2 ^ 62 ∧ -(2 ^ 62) ≤ b ∧ b < 2 ^ 62 ∧ (b - a).toNat ≤ 2 ^ 24 := by
    have h24 : (2 : Nat) ^ 24 = 16777216 := by decide
    omega
  simp only [if_pos e]
  exact q
theorem go_lrng1 {b : Int} (h : -1000000 ≤ b ∧ b ≤ 1000000) (q : PS (.ol (rngD 0 (b - 0).toNat)) st) : (lrng1 (.int b) st).holds E PS := go_lrng2 ⟨by decide, by decide, h.1, h.2⟩ q
theorem go_rep {xs : List D} {k : Int} (h1 : xs ≠ []) (h2 : 2 ≤ k ∧ k ≤ 1000) (h3 : xs.length ≤ 1000) (q : P (.tup (List.replicate k.toNat xs).flatten) st) : (repD (.tup xs) (.int k) st).holds E P := by
  unfold repD
  have e : xs ≠ [] ∧ 2 ≤ k ∧ k ≤ 1000 ∧ xs.length ≤ 1000 := ⟨h1, h2.1, h2.2, h3⟩
  simp only [if_pos e]
  exact q
theorem go_notinX {x y : D} {b : Bool} (h : inX st x y = some b) (q : P (.bl (!b)) st) : (notinD x y st).holds E P := by
  unfold notinD
  rw [h]
  exact q
end
theorem go_pow8 {st : Store} {P : D → Store → Prop} (q : P (.int 100000000) st) : (powD (.int 10) (.int 8) st).holds E P := go_pow (by decide) (by decide) q
theorem go_mul9 {st : Store} {P : D → Store → Prop} (q : P (.int 900000000) st) : (mulD (.int 9) (.int 100000000) st).holds E P := go_mul (lg2 (a := 9) (b := 100000000) (by decide) (by decide)) q
end EV
set_option Elab.async false
set_option linter.all false
set_option autoImplicit false
set_option maxRecDepth 100000
set_option maxHeartbeats 400000
/-! own classes: fields, methods, instances made -/
namespace EV
open PySem PySem.Spec PyProof.Rows L2
/-! ### attributes -/
def lkF (fs : List (Str × D)) (f : Str) : Option D := match fs with
  | [] => none
  | (x, d) :: r => if x == f then some d else lkF r f
def putA (f : Str) (d : D) : List (Str × D) → List (Str × D)
  | [] => [(f, d)]
  | (x, e) :: r => if x == f then (x, d) :: r else (x, e) :: putA f d r
section
variable {K : PySem.W.Frag} {mg : Str → Option Value} {g : G}
theorem RepF.get {f : Str} : ∀ {fs : List (Str × D)} {zs : List (Str × V)}, RepF K mg g fs zs → (∀ d, lkF fs f = some d → ∃ v, zs.lookup f = some v ∧ Rep K mg g d v) ∧ (lkF fs f = none → zs.lookup f = none)
  | _, _, .nil => ⟨fun d e => (nomatch e), fun _ => rfl⟩
  | _, _, .cons (x := x) (d := d0) (v := v0) (fs := fs) (zs := zs) r t => by
    obtain ⟨i1, i2⟩ := RepF.get (f := f) t
    unfold lkF
    by_cases h : x = f
    · subst h
      rw [if_pos (by simp)]
      refine ⟨fun d e => ?_, fun e => by cases e⟩
      cases e
      exact ⟨v0, by simp [List.lookup], r⟩
    · have h1 : (x == f) = false := by simpa using h
      have h2 : (f == x) = false := by simpa using Ne.symm h
      rw [if_neg (by rw [h1]; decide)]
      have e0 : List.lookup f ((x, v0) :: zs) = zs.lookup f := by simp [List.lookup, h2]
      rw [e0]
      exact ⟨i1, i2⟩
theorem RepF.put {f : Str} {d : D} {v : V} (r : Rep K mg g d v) : ∀ {fs : List (Str × D)} {zs : List (Str × V)}, RepF K mg g fs zs → RepF K mg g (putA f d fs) (putF f v zs)
  | _, _, .nil => .cons r .nil
  | _, _, .cons (x := x) (d := d0) (v := v0) (fs := fs) (zs := zs) r0 t => by
    unfold putA putF
    by_cases h : x = f
    · subst h
      rw [if_pos (by simp), if_pos rfl]
      exact .cons r t
    · have h1 : (x == f) = false := by simpa using h
      rw [if_neg (by rw [h1]; decide), if_neg h]
      exact .cons r0 (RepF.put r t)
theorem RepF.len : ∀ {fs : List (Str × D)} {zs : List (Str × V)}, RepF K mg g fs zs → fs.length = zs.length
  | _, _, .nil => rfl
  | _, _, .cons _ t => by simp [RepF.len t]
/-- an instance in the store -/
theorem SOk.objI {st : Store} {H : Hp} (S : SOk K mg g st H) {n : Nat} {v : V} {C : Str} {fs : List (Str × D)} (r : Rep K mg g (.ref n) v) (e : st[n]? = some (.ins C fs)) :
    ∃ a dx c zs, v = .ref a ∧ g.m[n]? = some (a, [a, dx]) ∧ mg C = some (.ref c) ∧ H a = some (.ins c dx zs) ∧ H dx = some (.own a) ∧ dx ≠ a ∧ RepF K mg g fs zs := by
  cases r with
  | @ref _ a h =>
    obtain ⟨p, h1, h2⟩ := S.ob.get e
    cases h2 with
    | @ins _ _ zs b dx c m1 m2 m3 m4 m5 =>
      have z : b = a := by
        unfold G.rs at h
        rw [List.getElem?_map, h1] at h
        exact Option.some.inj h
      subst z
      exact ⟨b, dx, c, zs, rfl, h1, m1, m2, m3, m4, m5⟩
/-- an object of the store is written -/
theorem SOk.wrG {st : Store} {H : Hp} {n : Nat} {p : Addr × List Addr} {o : HO} {so : SObj} (S : SOk K mg g st H) (hm : g.m[n]? = some p) (hp : p.1 ∈ p.2) (ob : ObOk K mg g (upd H p.1 o) so p) :
    SOk K mg g (st.set n so) (upd H p.1 o) ∧ Step g H [] g (upd H p.1 o) [] := by
  have hf : p.1 ∈ g.fp := List.mem_flatMap.mpr ⟨p, List.mem_of_getElem? hm, hp⟩
  have hk := S.fr p.1 hf
  have keep : ∀ x, H x ≠ none → upd H p.1 o x ≠ none := fun x hx => by
    by_cases e : x = p.1
    · subst e; rw [upd_same]; simp
    · rw [upd_ne e]; exact hx
  refine ⟨⟨fun x u h => ?_, S.nd, S.fr, fun x hx => keep x (S.th x hx), S.ob.set hm S.nd (fun x hx => upd_ne (fun z => hx (by rw [z]; exact hp))) ob⟩, ⟨Ext.refl g, fun x _ hx _ => upd_ne (by rintro rfl; exact hx hf), keep, fun _ h => .inl h, fun _ h => .inl h, fun _ h => nomatch h⟩⟩
  rw [upd_ne (by rintro rfl; rw [hk] at h; cases h)]
  exact S.kp x u h
end
/-! ### o.f -/
def FldOk (K : PySem.W.Frag) (mg : Str → Option Value) (C f : Str) : Prop := ∃ c, mg C = some (.ref c) ∧ Cls K c ∧ NoAttr K c f
def FldTab (K : PySem.W.Frag) (mg : Str → Option Value) (f : Str) (tb : List Str) : Prop := ∀ C ∈ tb, FldOk K mg C f
def fldF (tb : List Str) (f : Str) : D → Store → Res D := fun o st => match o with
  | .ref n => match st[n]? with
    | some (.ins C fs) => if C ∈ tb then (match lkF fs f with
      | some d => .ok d st
      | none => .stuck) else .stuck
    | _ => .stuck
  | _ => .stuck
section
variable {X : Cx} {W : Wi} {o e : Expr} {es : List Expr} {fo fe : En → Store → Res D} {fa : En → Store → Res (List D)} {pos p apos : Pos} {f m : Str} {tb : List Str}
theorem e_fld (ho : EE X W o fo) (hT : FldTab X.K X.mg f tb) (hb : attributeBase o f X.env (eval o X.env) = eval o X.env := by rfl) : EE X W (.Attribute o f pos) (v1 (fldF tb f) fo) := by
  refine ⟨fun pins s σ H Q I h => ?_⟩
  obtain ⟨g, env, st, os, hv, hos, hS, h⟩ := h
  refine (pe_fld ho hb).run pins s σ H Q I ⟨g, env, st, os, hv, hos, hS, (Post.bind h).imp fun x H1 q => ?_⟩
  obtain ⟨g1, d, st1, s1, r, S1, h1⟩ := q
  unfold fldF at h1
  split at h1
  · next n =>
    split at h1
    · next C fs he =>
      split at h1
      · next hm =>
        split at h1
        · next d hd =>
          obtain ⟨a, dx, c, zs, rfl, q1, q2, q3, q4, q5, q6⟩ := S1.objI r he
          obtain ⟨c', mc, cl, na⟩ := hT C hm
          rw [q2] at mc
          cases mc
          obtain ⟨v, w1, w2⟩ := (q6.get (f := f)).1 d hd
          exact ⟨a, c, dx, zs, v, rfl, q3, cl, na, w1, h1.here w2 S1⟩
        · exact h1.elim
      · exact h1.elim
    · exact h1.elim
  · exact h1.elim
/-! ### o.f = .. -/
def setF (tb : List Str) (f : Str) (o d : D) (st : Store) : Option Store := match o with
  | .ref n => match st[n]? with
    | some (.ins C fs) => if C ∈ tb ∧ fs.length < 1000 then some (st.set n (.ins C (putA f d fs))) else none
    | _ => none
  | _ => none
theorem setF_ok {K : PySem.W.Frag} {mg : Str → Option Value} {g : G} {st st' : Store} {H : Hp} {od d : D} {x v : V} (S : SOk K mg g st H) (ro : Rep K mg g od x) (rd : Rep K mg g d v) (hT : FldTab K mg f tb) (e : setF tb f od d st = some st') :
    ∃ a c dx zs, x = .ref a ∧ H a = some (.ins c dx zs) ∧ Cls K c ∧ NoAttr K c f ∧ zs.length < 1000 ∧ SOk K mg g st' (upd H a (.ins c dx (putF f v zs))) ∧ Step g H [] g (upd H a (.ins c dx (putF f v zs))) [] := by
  unfold setF at e
  split at e
  · next n =>
    split at e
    · next C fs he =>
      split at e
      · next hm =>
        cases e
        obtain ⟨a, dx, c, zs, rfl, q1, q2, q3, q4, q5, q6⟩ := S.objI ro he
        obtain ⟨c', mc, cl, na⟩ := hT C hm.1
        rw [q2] at mc
        cases mc
        obtain ⟨S', s'⟩ := S.wrG (o := .ins c dx (putF f v zs)) (so := .ins C (putA f d fs)) q1 (by simp) (.ins q2 upd_same ((upd_ne q5).trans q4) q5 (q6.put rd))
        exact ⟨a, c, dx, zs, rfl, q3, cl, na, by rw [← q6.len]; exact hm.2, S', s'⟩
      · cases e
    · cases e
  · cases e
def gFld (tb : List Str) (f : Str) (fo : En → Store → Res D) : D → En → Store → ResS := fun d env st => (fo env st).go env fun o st => match setF tb f o d st with
  | some st => .nx env st
  | none => .stuck
theorem g_fld (ho : EE X W o fo) (hT : FldTab X.K X.mg f tb) : GE X W (.Attribute o f pos) (gFld tb f fo) := by
  refine ⟨fun pins s σ H v u Q I r h => ?_⟩
  obtain ⟨g, env, st, os, hv, hos, hS, d, rd, h⟩ := h
  rw [assign_Attribute]
  refine wpAny_bind (wpAny_holding (thn (ho.run pins s σ H (fun x H1 => ∃ g1 od st1, Rep X.K X.mg g1 od x ∧ SOk X.K X.mg g1 st1 H1 ∧ Step g H [] g1 H1 [] ∧ EnvOk X.K X.mg g1 H1 env σ os ∧ OsOk g1 H1 os ∧ PostSt X.K X.mg W g1 H1 os { nx := Q, rt := fun _ _ => False } (match setF tb f od d st1 with | some st => .nx env st | none => .stuck)) I ⟨g, env, st, os, hv, hos, hS, (PostSt.go hv hos h).imp fun x H1 q => ?_⟩) fun ov s1 ⟨x, H1, I1, r1, q1⟩ => ?_))
  · obtain ⟨g1, od, st1, s1, ro, S1, e1, o1, h1⟩ := q
    exact ⟨g1, od, st1, ro, S1, s1, e1, o1, h1⟩
  · obtain ⟨g1, od, st1, ro, S1, s1', e1, o1, h1⟩ := q1
    refine wpAny_bind (wpAny_standAt ?_)
    split at h1
    · next st2 hset =>
      obtain ⟨a, c, dx, zs, rfl, w1, w2, w3, w4, w5, w6⟩ := setF_ok S1 ro (rd.ext s1'.ext) hT hset
      cases r1
      refine wpAny_bind (wpAny_holding (setattr_ok I1 w1 w2 w3 w4 r fun s2 I2 => ?_))
      exact wpAny_release ⟨σ, _, I2, h1 σ g1 _ os (w6.frame os) (e1.step' o1 w6) (o1.step w6) w5⟩
    · exact (h1 : False).elim
/-- o.f = e -/
theorem st_fld (he : EE X W e fe) (ho : EE X W o fo) (hT : FldTab X.K X.mg f tb) {pos' : Pos} (hs : swapsWithSole [.Attribute o f pos'] e pos.line X.env = pure false := by rfl) (hw : swappedStores [.Attribute o f pos'] e X.env = pure none := by rfl)
    (h1 : (assignEach [.Attribute o f pos'] X.env).map (·.2) = [assign (.Attribute o f pos') X.env] := by rfl) : ST X W (.Assign [.Attribute o f pos'] e pos) (sAsg fe (gFld tb f fo)) := st_asg he (g_fld ho hT) hs hw h1
end
end EV
set_option Elab.async false
set_option linter.all false
set_option autoImplicit false
set_option maxRecDepth 100000
set_option maxHeartbeats 400000
/-! methods called, instances made -/
namespace EV
open PySem PySem.Spec PyProof.Rows L2
theorem Rm.make {k : Nat} {A : Around} (r : Rm (k + 1) A) (C : Addr) (us : List Value) (kw : List (Str × Value)) : Rm k (A.under (.builtin "type.__call__" ⟨.ref C :: us, kw⟩)) :=
  ⟨r.room.make C us kw, by first | exact r.gd | (show A.guards.map _ = _; rw [r.gd]; rfl) | (simp [Around.under, r.gd]; done)⟩
def MethOk (P : Program) (w : World) (K : PySem.W.Frag) (mg : Str → Option Value) (base : Heap) (k : Nat) (m C : Str) (ps : List Str) (F : List D → Store → Res D) : Prop :=
  ∃ c f fd, mg C = some (.ref c) ∧ Cls K c ∧ Meth K c m f ∧ Binds K fd ps [] ∧ FnG P w K mg base k f fd ps (spE K mg ps.length F)
theorem MethOk.mono {P : Program} {w : World} {K : PySem.W.Frag} {mg : Str → Option Value} {base : Heap} {j k : Nat} {m C : Str} {ps : List Str} {F : List D → Store → Res D} (h : MethOk P w K mg base j m C ps F) (hk : j ≤ k) : MethOk P w K mg base k m C ps F := by
  obtain ⟨c, f, fd, h1, h2, h3, h4, h5⟩ := h
  exact ⟨c, f, fd, h1, h2, h3, h4, h5.mono hk⟩
def MethTab (P : Program) (w : World) (K : PySem.W.Frag) (mg : Str → Option Value) (base : Heap) (k : Nat) (m : Str) : DefTab → Prop
  | [] => True
  | p :: tb => MethOk P w K mg base k m p.1 p.2.1 p.2.2 ∧ MethTab P w K mg base k m tb
theorem MethTab.at_ {P : Program} {w : World} {K : PySem.W.Frag} {mg : Str → Option Value} {base : Heap} {k : Nat} {m y : Str} {ps : List Str} {F : List D → Store → Res D} : ∀ {tb : DefTab}, MethTab P w K mg base k m tb → tabF tb y = some (ps, F) → MethOk P w K mg base k m y ps F
  | [], _, e => by cases e
  | p :: tb, ⟨h, t⟩, e => by
    unfold tabF at e
    rw [List.find?_cons] at e
    cases hz : (p.1 == y) with
    | true =>
      rw [hz] at e
      have e1 : p.2 = (ps, F) := Option.some.inj e
      have e2 : p.1 = y := by simpa using hz
      obtain ⟨x, ps', F'⟩ := p
      cases e1
      cases e2
      exact h
    | false =>
      rw [hz] at e
      exact MethTab.at_ t e
def InitOk (P : Program) (w : World) (K : PySem.W.Frag) (mg : Str → Option Value) (base : Heap) (k : Nat) (C : Str) (ps : List Str) (F : List D → Store → Res D) : Prop :=
  ∃ c f fd, mg C = some (.ref c) ∧ Mk K c f ∧ Binds K fd ps [] ∧ FnG P w K mg base k f fd ps (spE K mg ps.length F)
theorem InitOk.mono {P : Program} {w : World} {K : PySem.W.Frag} {mg : Str → Option Value} {base : Heap} {j k : Nat} {C : Str} {ps : List Str} {F : List D → Store → Res D} (h : InitOk P w K mg base j C ps F) (hk : j ≤ k) : InitOk P w K mg base k C ps F := by
  obtain ⟨c, f, fd, h1, h2, h3, h4⟩ := h
  exact ⟨c, f, fd, h1, h2, h3, h4.mono hk⟩
section
variable {X : Cx} {W : Wi} {o e : Expr} {es : List Expr} {fo fe : En → Store → Res D} {fa : En → Store → Res (List D)} {pos p apos : Pos} {C m : Str} {tb : DefTab} {k : Nat} {ps : List Str} {F : List D → Store → Res D}
/-- o.m(..) by the class of o -/
def methD (tb : DefTab) (m : Str) (fa : En → Store → Res (List D)) (env : En) : D → Store → Res D := fun o st => match o with
  | .ref n => match st[n]? with
    | some (.ins C fs) => match lkF fs m, tabF tb C with
      | none, some (ps, F) => (fa env st).bind fun ds st => fnN ps.length F (.ref n :: ds) st
      | _, _ => .stuck
    | _ => .stuck
  | _ => .stuck
def vMeth (tb : DefTab) (m : Str) (fo : En → Store → Res D) (fa : En → Store → Res (List D)) : En → Store → Res D := fun env st => (fo env st).bind (methD tb m fa env)
/-- what is between the receiver and the callee -/
theorem meth_at {pl : Sem Bool} {pins : List (Addr × Obj)} {s : Shared} {σ : L2.St} {H : Hp} {Q : VK} {args : List Expr} (hT : MethTab X.prog X.w X.K X.mg X.base k m tb) (ho : EE X W o fo) (I : L2.Inv X pins σ H s) (h : tE X.K X.mg W (vMeth tb m fo fa) σ H Q)
    (ht : eval (.Call (.Attribute o m apos) args [] pos) X.env = (do let recv ← eval o X.env; standAt apos.atName; let (fn, fst) ← holding [recv] (getMethod recv m pl); callWith pos fn fst (backTo pos (starEach args X.env)) (backToKw pos (keywordEach [] X.env))))
    (hrun : ∀ (g1 : G) (env : En) (st1 : Store) (os : List Addr) (n : Nat) (a c f : Addr) (fd : FuncData) (ps : List Str) (F : List D → Store → Res D) (s1 : Shared) (H1 : Hp), L2.Inv X pins σ H1 s1 → EnvOk X.K X.mg g1 H1 env σ os → OsOk g1 H1 os → SOk X.K X.mg g1 st1 H1 → Rep X.K X.mg g1 (.ref n) (.ref a) →
      Meth X.K c m f → Binds X.K fd ps [] → FnG X.prog X.w X.K X.mg X.base k f fd ps (spE X.K X.mg ps.length F) → Post X.K X.mg (Rep X.K X.mg) W g1 H1 σ ((fa env st1).bind fun ds st => fnN ps.length F (.ref n :: ds) st) Q →
      wpAny (model X.prog X.w) X.A (callWith pos (.ref f) [.ref a] (backTo pos (starEach args X.env)) (backToKw pos (keywordEach [] X.env))) (EP X pins σ Q) X.xe s1) :
    wpAny (model X.prog X.w) X.A (eval (.Call (.Attribute o m apos) args [] pos) X.env) (EP X pins σ Q) X.xe s := by
  obtain ⟨g, env, st, os, hv, hos, hS, h⟩ := h
  refine PySem.W.methodCall_KW (pl := pl) (thn (ho.run pins s σ H _ I ⟨g, env, st, os, hv, hos, hS, Post.bind h⟩) fun u s1 ⟨x, H1, I1, rx, q⟩ => ?_) ht
  obtain ⟨g1, d, st1, s1', r, S1, h1⟩ := q
  unfold methD at h1
  split at h1
  · next n =>
    split at h1
    · next C fs he =>
      split at h1
      · next ps F hl hF =>
        obtain ⟨a, dx, c, zs, rfl, q1, q2, q3, q4, q5, q6⟩ := S1.objI r he
        obtain ⟨c', f, fd, mc, cl, hm, hb, FG⟩ := hT.at_ hF
        rw [q2] at mc
        cases mc
        cases rx
        refine getmeth_ok I1 q3 cl hm ((q6.get (f := m)).2 hl) ?_
        exact hrun g1 env st1 os n a c f fd ps F s1 H1 I1 (hv.step' hos s1') (hos.step s1') S1 r hm hb FG h1
      · exact h1.elim
    · exact h1.elim
  · exact h1.elim
theorem run_to {pins : List (Addr × Obj)} {σ : L2.St} {H : Hp} {s : Shared} {Q : VK} {f : Addr} {fd : FuncData} {us : List Value} {vs : List V} {g : G} {ds : List D} {st : Store} (FG : FnG X.prog X.w X.K X.mg X.base k f fd ps (spE X.K X.mg ps.length F)) (hr : Rm k X.A) (tk : L2N.Takes X (wOf X.K X.mg W))
    (hb : Binds X.K fd ps []) (I : L2.Inv X pins σ H s) (r : Vals vs us) (rd : RepL X.K X.mg g ds vs) (S : SOk X.K X.mg g st H) (h : Post X.K X.mg (Rep X.K X.mg) W g H σ (fnN ps.length F ds st) Q) :
    wpAny (model X.prog X.w) X.A (call (.ref f) us) (EP X pins σ Q) X.xe s := by
  unfold fnN at h
  split at h
  · next hl =>
    have hb' := hb s us I.kIn (by rw [List.append_nil, ← r.length, ← rd.length]; exact hl)
    rw [List.append_nil] at hb'
    refine wpAny_call (codeAny_mono (run_fnG FG hr tk hb' I r hl rd S h) fun r s' hq => ?_)
    cases r with
    | error e => exact hq
    | ok fl =>
      cases fl with
      | ret u => exact hq
      | next => exact False.elim hq
      | brk => exact False.elim hq
      | cont => exact False.elim hq
  · exact h.elim
theorem e_meth {pl : Sem Bool} (hT : MethTab X.prog X.w X.K X.mg X.base k m tb) (hr : Rm k X.A) (tk : L2N.Takes X (wOf X.K X.mg W)) (ho : EE X W o fo) (ha : AE X W (e :: es) fa)
    (hst : starEach (e :: es) X.env = (false, eval e X.env) :: starEach es X.env := by rfl) (hpl : (backTo pos (starEach es X.env)).any (·.1) = false := by rfl)
    (ht : eval (.Call (.Attribute o m apos) (e :: es) [] pos) X.env = (do let recv ← eval o X.env; standAt apos.atName; let (fn, fst) ← holding [recv] (getMethod recv m pl); callWith pos fn fst (backTo pos (starEach (e :: es) X.env)) (backToKw pos (keywordEach [] X.env))) := by rfl) :
    EE X W (.Call (.Attribute o m apos) (e :: es) [] pos) (vMeth tb m fo fa) := by
  refine ⟨fun pins s σ H Q I h => meth_at (pl := pl) hT ho I h ht ?_⟩
  intro g1 env st1 os n a c f fd ps F s1 H1 I1 e1 o1 S1 r hm hb FG h1
  refine PySem.W.callWith_K (first := [.ref a]) (h₀ := X.base) I1.ok.mod.kin hm.kp (thn (ha.run pos pins s1 σ H1 _ I1 ⟨g1, env, st1, os, e1, o1, S1, Post.bind h1⟩) fun us s2 ⟨vs, H2, I2, r2, q⟩ => ⟨I2.kIn, ?_⟩) hst hpl
  obtain ⟨g2, ds, st2, s2', rd, S2, h2⟩ := q
  exact run_to (us := .ref a :: us) (vs := .ref a :: vs) FG hr tk hb I2 (.cons rfl r2) (.cons (r.ext s2'.ext) rd) S2 h2
theorem e_meth0 {pl : Sem Bool} (hT : MethTab X.prog X.w X.K X.mg X.base k m tb) (hr : Rm k X.A) (tk : L2N.Takes X (wOf X.K X.mg W)) (ho : EE X W o fo)
    (ht : eval (.Call (.Attribute o m apos) [] [] pos) X.env = (do let recv ← eval o X.env; standAt apos.atName; let (fn, fst) ← holding [recv] (getMethod recv m pl); callWith pos fn fst (backTo pos (starEach [] X.env)) (backToKw pos (keywordEach [] X.env))) := by rfl) :
    EE X W (.Call (.Attribute o m apos) [] [] pos) (vMeth tb m fo vNil) := by
  refine ⟨fun pins s σ H Q I h => meth_at (pl := pl) hT ho I h ht ?_⟩
  intro g1 env st1 os n a c f fd ps F s1 H1 I1 e1 o1 S1 r hm hb FG h1
  exact PySem.W.callWith_K0 (first := [.ref a]) I1.kIn hm.kp (run_to (us := [.ref a]) (vs := [.ref a]) FG hr tk hb I1 (.cons rfl .nil) (.cons r .nil) S1 h1)
/-! ### C(..) -/
def makeD (C : Str) (n : Nat) (F : List D → Store → Res D) : List D → Store → Res D := fun ds st => (fnN n F (.ref st.length :: ds) (st ++ [.ins C []])).bind fun d st' => match d with
  | .non => .ok (.ref st.length) st'
  | _ => .stuck
def G.objP (g : G) (p : Addr × List Addr) : G := ⟨g.kp, g.m ++ [p]⟩
theorem G.objP_fp (g : G) (p : Addr × List Addr) : (g.objP p).fp = g.fp ++ p.2 := by simp [G.objP, G.fp, fpOf]
theorem G.objP_rs (g : G) (p : Addr × List Addr) : (g.objP p).rs = g.rs ++ [p.1] := by simp [G.objP, G.rs]
theorem ext_objP {g : G} {p : Addr × List Addr} : Ext g (g.objP p) := ⟨fun _ _ h => h, fun n a h => by
  rw [G.objP_rs, List.getElem?_append_left (List.getElem?_eq_some_iff.mp h).1]
  exact h⟩
theorem SOk.newI {K : PySem.W.Frag} {mg : Str → Option Value} {g : G} {st : Store} {H : Hp} {x dx c : Addr} (S : SOk K mg g st H) (hx : H x = none) (hdx : H dx = none) (ne : dx ≠ x) (mc : mg C = some (.ref c)) :
    SOk K mg (g.objP (x, [x, dx])) (st ++ [.ins C []]) (upd (upd H dx (.own x)) x (.ins c dx [])) ∧ Step g H [] (g.objP (x, [x, dx])) (upd (upd H dx (.own x)) x (.ins c dx [])) [] ∧ Rep K mg (g.objP (x, [x, dx])) (.ref st.length) (.ref x) := by
  have kx := S.kpn hx
  have kd := S.kpn hdx
  have fx := S.fpn hx
  have fd := S.fpn hdx
  have off : ∀ a, H a ≠ none → upd (upd H dx (.own x)) x (.ins c dx []) a = H a := fun a ha => by
    rw [upd_ne (by rintro rfl; exact ha hx), upd_ne (by rintro rfl; exact ha hdx)]
  have nw : upd (upd H dx (.own x)) x (.ins c dx []) dx = some (.own x) := by rw [upd_ne ne, upd_same]
  refine ⟨⟨fun a u h => ?_, ?_, fun a ha => ?_, fun a ha => ?_, ?_⟩, ⟨ext_objP, fun a ha _ _ => off a ha, fun a ha => by rw [off a ha]; exact ha, fun a ha => ?_, fun a ha => .inl ha, fun a ha => nomatch ha⟩, .ref ?_⟩
  · have h' : g.kp a = some u := h
    rw [off a (by rw [S.kp a u h']; simp)]
    exact S.kp a u h'
  · rw [G.objP_fp, List.nodup_append]
    refine ⟨S.nd, by simp [Ne.symm ne], fun a ha b hb e => ?_⟩
    subst e
    simp only [List.mem_cons, List.not_mem_nil, or_false] at hb
    rcases hb with rfl | rfl
    · exact fx ha
    · exact fd ha
  · rw [G.objP_fp] at ha
    rcases List.mem_append.mp ha with ha | ha
    · exact S.fr a ha
    · simp only [List.mem_cons, List.not_mem_nil, or_false] at ha
      rcases ha with rfl | rfl
      · exact kx
      · exact kd
  · rw [G.objP_fp] at ha
    rcases List.mem_append.mp ha with ha | ha
    · rw [off a (S.th a ha)]; exact S.th a ha
    · simp only [List.mem_cons, List.not_mem_nil, or_false] at ha
      rcases ha with rfl | rfl
      · rw [upd_same]; simp
      · rw [nw]; simp
  · exact (S.ob.step ext_objP fun a ha => off a (S.th a ha)).snoc (.ins mc upd_same nw ne .nil)
  · rw [G.objP_fp] at ha
    rcases List.mem_append.mp ha with ha | ha
    · exact .inl ha
    · simp only [List.mem_cons, List.not_mem_nil, or_false] at ha
      rcases ha with rfl | rfl
      · exact .inr (.inl hx)
      · exact .inr (.inl hdx)
  · rw [G.objP_rs, List.getElem?_append_right (by rw [S.ob.length]; simp [G.rs])]
    rw [S.ob.length]
    simp [G.rs]
theorem run_mk {pins : List (Addr × Obj)} {σ : L2.St} {H : Hp} {s : Shared} {Q : VK} {us : List Value} {vs : List V} {g : G} {ds : List D} {st : Store} (MI : InitOk X.prog X.w X.K X.mg X.base k C ps F) (hr : Rm (k + 1) X.A) (tk : L2N.Takes X (wOf X.K X.mg W))
    {c : Addr} (mc : X.mg C = some (.ref c)) (I : L2.Inv X pins σ H s) (r : Vals vs us) (rd : RepL X.K X.mg g ds vs) (S : SOk X.K X.mg g st H) (h : Post X.K X.mg (Rep X.K X.mg) W g H σ (makeD C ps.length F ds st) Q) :
    wpAny (model X.prog X.w) X.A (call (.ref c) us) (EP X pins σ Q) X.xe s := by
  obtain ⟨c', f, fd, mc', M, hb, FG⟩ := MI
  rw [mc] at mc'
  cases mc'
  have nx := I.hok.fresh (Nat.le_succ s.heap.objs.size)
  have nd := I.hok.fresh (Nat.le_refl s.heap.objs.size)
  have ne : s.heap.objs.size ≠ s.heap.objs.size + 1 := Nat.ne_of_lt (Nat.lt_succ_self _)
  obtain ⟨S2, s2, r2⟩ := S.newI (C := C) nx nd ne mc
  have I2 := Inv.made (C := c) I
  have rv : Vals (V.ref (s.heap.objs.size + 1) :: vs) (Value.ref (s.heap.objs.size + 1) :: us) := .cons rfl r
  have rl : RepL X.K X.mg (g.objP (s.heap.objs.size + 1, [s.heap.objs.size + 1, s.heap.objs.size])) (.ref st.length :: ds) (V.ref (s.heap.objs.size + 1) :: vs) := .cons r2 (rd.ext s2.ext)
  unfold makeD at h
  have h2 := Post.bind (R := Rep X.K X.mg) (Post.step h s2)
  unfold fnN at h2
  split at h2
  · next hl =>
    have hb' := hb { s with heap := (s.heap.push PySem.W.emptyDict).push (PySem.W.instObj c s.heap.objs.size) } (Value.ref (s.heap.objs.size + 1) :: us) I2.kIn (by rw [List.append_nil, ← rv.length, ← rl.length]; exact hl)
    rw [List.append_nil] at hb'
    refine wpAny_call (make_map (f := f) I.kIn M.makes M.init (beq_iff_eq.mp M.fn) (codeAny_mono (FG.run _ X.stack _ _ ⟨Value.ref (s.heap.objs.size + 1) :: us, []⟩ (Value.ref (s.heap.objs.size + 1) :: us) _
      (fun v H' => v = .non ∧ Q (.ref (s.heap.objs.size + 1)) H') (fun cls d H' => ∃ e st' g', SOk X.K X.mg g' st' H' ∧ ErOk X.K X.mg g' e cls d ∧ W e st' g' H' σ) (hr.make c us []) (I2.env0.make c us []) hb' rv ⟨_, _, _, hl, rl, S2, ?_⟩) fun r s' hq => ?_))
    · revert h2
      generalize F (.ref st.length :: ds) (st ++ [.ins C []]) = q
      intro h2
      cases q with
      | ok d st' =>
        intro v g' H' s3 r3 S3
        obtain ⟨g4, d4, st4, s4, r4, S4, h4⟩ := h2 v g' H' s3 r3 S3
        cases d4 with
        | non => cases r4; exact ⟨rfl, h4.here (r2.ext s4.ext) S4⟩
        | _ => exact h4.elim
      | er e st' => exact fun cls d g' H' s1 S1 eo => ⟨e, st', g', S1, eo, h2 g' H' s1 S1⟩
      | stuck => exact h2
    · cases r with
      | error e => exact tk _ _ (L2N.XE.of_call I2 (fun cls d H' hE => hE) hq)
      | ok fl =>
        cases fl with
        | ret u =>
          obtain ⟨v, H', I3, rv, ⟨rfl, q3⟩⟩ := I2.after hq
          exact ⟨rv, .ref (s.heap.objs.size + 1), H', I3, rfl, q3⟩
        | next => exact False.elim hq
        | brk => exact False.elim hq
        | cont => exact False.elim hq
  · exact h2.elim
variable {x : Str}
theorem e_make0 (MI : InitOk X.prog X.w X.K X.mg X.base k C ps F) (hr : Rm (k + 1) X.A) (tk : L2N.Takes X (wOf X.K X.mg W)) (hg : Gl X C) (hdb : (C == ("__debug__" : Str)) = false := by decide) :
    EE X W (.Call (.Name C p) [] [] pos) (vA (makeD C ps.length F) vNil) := by
  refine ⟨fun pins s σ H Q I h => ?_⟩
  obtain ⟨g, env, st, os, hv, hos, hS, h⟩ := h
  obtain ⟨c, f, fd, mc, M, hb, FG⟩ := MI
  refine wpAny_Call_Name_kw (ld_glob I hg mc ?_ hdb)
  exact PySem.W.callWith_K0 I.kIn M.kp (run_mk (us := []) ⟨c, f, fd, mc, M, hb, FG⟩ hr tk mc I .nil .nil hS h)
end
end EV
namespace EV
open PySem PySem.Spec PyProof.Rows L2
/-! ### what the top has written of classes -/
structure TopMeth (K : PySem.W.Frag) (mg : Str → Option Value) (C m qual : Str) (st : Stmt) (ps : List Str) : Prop where
  ex : ∃ c f fd, mg C = some (.ref c) ∧ Cls K c ∧ Meth K c m f ∧ Fun K m qual st f fd ∧ Binds K fd ps []
structure TopInit (K : PySem.W.Frag) (mg : Str → Option Value) (C qual : Str) (st : Stmt) (ps : List Str) : Prop where
  ex : ∃ c f fd, mg C = some (.ref c) ∧ Mk K c f ∧ Fun K "__init__" qual st f fd ∧ Binds K fd ps []
theorem fldTab_nil {K : PySem.W.Frag} {mg : Str → Option Value} {f : Str} : FldTab K mg f [] := fun _ h => nomatch h
theorem fldTab_cons {K : PySem.W.Frag} {mg : Str → Option Value} {f C : Str} {tb : List Str} {c : Addr} (h : mg C = some (.ref c)) (cl : Cls K c) (n : NoAttr K c f) (t : FldTab K mg f tb) : FldTab K mg f (C :: tb) := fun x hx => by
  rcases List.mem_cons.mp hx with rfl | hx
  · exact ⟨c, h, cl, n⟩
  · exact t x hx
section
variable {P : Program} {w : World} {K : PySem.W.Frag} {mg : Str → Option Value} {base : Heap}
theorem meth_ok {C m qual : Str} {st : Stmt} {N ps : List Str} {k n : Nat} {body : En → Store → ResS} (T : TopMeth K mg C m qual st ps) (S : FnScope N ps (defScope st)) (hN : N.length = ps.length + n)
    (hbody : ∀ (f : Addr) (cdv : Value) (A : Around) (outer : List Env) (s : Shared) (H : Hp) (E : XK), Rm k (A.deeper (envOfC qual (defScope st) s.heap.objs.size f cdv)) →
      L2N.Takes (cxOf (L2N.CX P w) P w K mg base N qual (defScope st) f cdv A outer s H E) (wOf K mg (wE K mg E)) →
      STs (cxOf (L2N.CX P w) P w K mg base N qual (defScope st) f cdv A outer s H E) (wE K mg E) (defBody st) body) : MethOk P w K mg base (k + 1) m C ps (fnF ps.length n body) := by
  obtain ⟨c, f, fd, hm, cl, me, F, b⟩ := T.ex
  exact ⟨c, f, fd, hm, cl, me, b, fn_ok F S hN (hbody f)⟩
theorem init_ok {C qual : Str} {st : Stmt} {N ps : List Str} {k n : Nat} {body : En → Store → ResS} (T : TopInit K mg C qual st ps) (S : FnScope N ps (defScope st)) (hN : N.length = ps.length + n)
    (hbody : ∀ (f : Addr) (cdv : Value) (A : Around) (outer : List Env) (s : Shared) (H : Hp) (E : XK), Rm k (A.deeper (envOfC qual (defScope st) s.heap.objs.size f cdv)) →
      L2N.Takes (cxOf (L2N.CX P w) P w K mg base N qual (defScope st) f cdv A outer s H E) (wOf K mg (wE K mg E)) →
      STs (cxOf (L2N.CX P w) P w K mg base N qual (defScope st) f cdv A outer s H E) (wE K mg E) (defBody st) body) : InitOk P w K mg base (k + 1) C ps (fnF ps.length n body) := by
  obtain ⟨c, f, fd, hm, mk, F, b⟩ := T.ex
  exact ⟨c, f, fd, hm, mk, b, fn_ok F S hN (hbody f)⟩
end
end EV
set_option Elab.async false
set_option linter.all false
set_option autoImplicit false
set_option maxRecDepth 100000
set_option maxHeartbeats 400000
/-! methods of lists and dicts of the store; displays of dicts; sums, greatest ones -/
namespace EV
open PySem PySem.Spec PyProof.Rows L2
section
variable {X : Cx} {W : Wi} {o e e2 : Expr} {es : List Expr} {fo fe fe2 : En → Store → Res D} {fa : En → Store → Res (List D)} {pos p apos cpos : Pos}
/-- o is a list of the store -/
def isLR (st : Store) : D → Bool
  | .ref n => match st[n]? with
    | some (.cell (.ol _)) => true
    | _ => false
  | _ => false
theorem SOk.tyL {K : PySem.W.Frag} {mg : Str → Option Value} {g : G} {st : Store} {H : Hp} (S : SOk K mg g st H) {o : D} {v : V} (r : Rep K mg g o v) (h : isLR st o = true) : tyV K "list" v H := by
  unfold isLR at h
  split at h
  · next n =>
    split at h
    · next ds e =>
      obtain ⟨a, rfl, h1, h2⟩ := S.cellAt r e
      cases h2 with
      | ol h3 rl => exact Or.inl ⟨rfl, _, SqL.of h3⟩
    · cases h
  · cases h
/-- o.name(e), o a list of the store -/
def vBm (F : D → D → Store → Res D) (fo fe : En → Store → Res D) : En → Store → Res D := fun env st => (fo env st).bind fun o st => if isLR st o = true then (fe env st).bind fun d st => F o d st else .stuck
theorem e_bmL {name : Str} {id : String} {r : V → List V → Hp → VK → Prop} {F : D → D → Store → Res D} (slot : PySem.Slot "list" name id) (hty : typeOf (.builtin id) = pure (.type "method_descriptor")) (hm : MtR X id r)
    (hF : ∀ (σ : L2.St) (H : Hp) (g : G) (st : Store) (o d : D) (vo vd : V) (Q : VK), SOk X.K X.mg g st H → Rep X.K X.mg g o vo → Rep X.K X.mg g d vd → Post X.K X.mg (Rep X.K X.mg) W g H σ (F o d st) Q → r vo [vd] H Q)
    (ho : EE X W o fo) (he : EE X W e fe) (hbase : attributeBase o name X.env (eval o X.env) = eval o X.env := by rfl)
    (hfew : ((backTo cpos (starEach [e] X.env)).all (fun x => !x.1) && (backToKw cpos (keywordEach [] X.env)).all (fun x => x.1.isSome) && decide ([e].length + ([] : List Keyword).length + (if ([] : List Keyword).isEmpty then 0 else 1) < 30)) = true := by rfl)
    (hline : (apos.endLine == cpos.line) = true := by rfl) (hs : starEach [e] X.env = (false, eval e X.env) :: starEach [] X.env := by rfl) (hplain : (backTo cpos (starEach [] X.env)).any (·.1) = false := by rfl) :
    EE X W (.Call (.Attribute o name apos) [e] [] cpos) (vBm F fo fe) := by
  refine ⟨fun pins s σ H Q I h => ?_⟩
  obtain ⟨g, env, st, os, hv, hos, hS, h⟩ := h
  refine (pe_bm PySem.F.plainAttrs_list slot hty hm ho (pa_cons he pa_nil hs) hbase hfew hline hs hplain).run pins s σ H Q I ⟨g, env, st, os, hv, hos, hS, (Post.bind h).imp fun x H1 q => ?_⟩
  obtain ⟨g1, od, st1, s1, r1, S1, h1⟩ := q
  split at h1
  · next hl =>
    refine ⟨S1.tyL r1 hl, g1, env, st1, os, hv.step' hos s1, hos.step s1, S1, (Post.bind h1).imp fun y H2 q => ?_⟩
    obtain ⟨g2, d, st2, s2, r2, S2, h2⟩ := q
    exact hF σ H2 g2 st2 od d x y Q S2 (r1.ext s2.ext) r2 h2
  · exact h1.elim
def appD : D → D → Store → Res D := fun o d st => match appR o d st with
  | some st => .ok .non st
  | none => .stuck
/-- o.pop(i) -/
def popD : D → D → Store → Res D := fun o d st => match o, d with
  | .ref n, .int i => match st[n]? with
    | some (.cell (.ol ds)) => if 0 ≤ i ∧ i < ds.length ∧ ds.length ≤ 1000000 then (match ds[i.toNat]? with
      | some x => .ok x (st.set n (.cell (.ol (ds.eraseIdx i.toNat))))
      | none => .stuck) else .stuck
    | _ => .stuck
  | _, _ => .stuck
theorem RepL.erase {K : PySem.W.Frag} {mg : Str → Option Value} {g : G} : ∀ {ds : List D} {vs : List V} (i : Nat), RepL K mg g ds vs → RepL K mg g (ds.eraseIdx i) (vs.eraseIdx i)
  | _, _, _, .nil => .nil
  | _, _, 0, .cons _ t => t
  | _, _, i + 1, .cons r t => .cons r (RepL.erase i t)
theorem e_popI (ho : EE X W o fo) (he : EE X W e fe) (hbase : attributeBase o "pop" X.env (eval o X.env) = eval o X.env := by rfl)
    (hfew : ((backTo cpos (starEach [e] X.env)).all (fun x => !x.1) && (backToKw cpos (keywordEach [] X.env)).all (fun x => x.1.isSome) && decide ([e].length + ([] : List Keyword).length + (if ([] : List Keyword).isEmpty then 0 else 1) < 30)) = true := by rfl)
    (hline : (apos.endLine == cpos.line) = true := by rfl) (hs : starEach [e] X.env = (false, eval e X.env) :: starEach [] X.env := by rfl) (hplain : (backTo cpos (starEach [] X.env)).any (·.1) = false := by rfl) :
    EE X W (.Call (.Attribute o "pop" apos) [e] [] cpos) (vBm popD fo fe) :=
  e_bmL PySem.F.slot_list_pop PySem.F.type_list_pop mt_popAt (fun σ H g st o d vo vd Q S ro rd q => by
    unfold popD at q
    split at q
    · next n i =>
      split at q
      · next ds hn =>
        split at q
        · next hz =>
          split at q
          · next x hx =>
            cases rd
            obtain ⟨a, vs, rfl, hm, hH, rl⟩ := S.objL ro hn
            obtain ⟨y, hy, ry⟩ := rl.get hx
            obtain ⟨S3, s3⟩ := S.wrR hm (rl.erase i.toNat)
            refine ⟨a, vs, i, i.toNat, y, rfl, rfl, hH, by omega, by omega, ?_, hy, q _ _ _ s3 ry S3⟩
            rw [← rl.length]
            exact seqIndex_of hz.1 (by omega)
          · exact q.elim
        · exact q.elim
      · exact q.elim
    · exact q.elim) ho he hbase hfew hline hs hplain
/-! ### dicts -/
def isDR (st : Store) (o : D) : Bool := (dictOf st o).isSome
theorem SOk.isD {K : PySem.W.Frag} {mg : Str → Option Value} {g : G} {st : Store} {H : Hp} (S : SOk K mg g st H) {o : D} {v : V} (r : Rep K mg g o v) (h : isDR st o = true) : ∃ a, v = .ref a ∧ IsD H a := by
  unfold isDR at h
  cases e : dictOf st o with
  | none => rw [e] at h; cases h
  | some kvs =>
    obtain ⟨a, u, rfl, h1, h2⟩ := S.dictAt r e
    refine ⟨a, rfl, ?_⟩
    cases h2 with
    | nilK => exact .inl ⟨_, h1⟩
    | nilT => exact .inr ⟨_, h1⟩
    | consK _ _ => exact .inl ⟨_, h1⟩
    | consT _ _ => exact .inr ⟨_, h1⟩
/-- o.pop(k), it is there -/
def dpopD : D → D → Store → Res D := fun o y st => match o with
  | .ref n => match st[n]? with
    | some (.cell (.od false kvs)) => match dkOf y with
      | some (.k x) => match lkD kvs (.k x) with
        | some d => .ok d (st.set n (.cell (.od false (dropD kvs (.k x)))))
        | none => .stuck
      | _ => .stuck
    | _ => .stuck
  | _ => .stuck
def vBd (F : D → D → Store → Res D) (fo fe : En → Store → Res D) : En → Store → Res D := fun env st => (fo env st).bind fun o st => if isDR st o = true then (fe env st).bind fun d st => F o d st else .stuck
theorem e_dpop (ho : EE X W o fo) (he : EE X W e fe) (m : M1 X o "pop" apos e cpos := by exact ⟨rfl, rfl, rfl, rfl⟩) : EE X W (.Call (.Attribute o "pop" apos) [e] [] cpos) (vBd dpopD fo fe) := by
  refine ⟨fun pins s σ H Q I h => ?_⟩
  obtain ⟨g, env, st, os, hv, hos, hS, h⟩ := h
  refine (pe_dpop1 ho he m).run pins s σ H Q I ⟨g, env, st, os, hv, hos, hS, (Post.bind h).imp fun x H1 q => ?_⟩
  obtain ⟨g1, od, st1, s1, r1, S1, h1⟩ := q
  split at h1
  · next hl =>
    obtain ⟨a, rfl, hd⟩ := S1.isD r1 hl
    refine ⟨a, rfl, hd, g1, env, st1, os, hv.step' hos s1, hos.step s1, S1, (Post.bind h1).imp fun y H2 q => ?_⟩
    obtain ⟨g2, d, st2, s2, r2, S2, h2⟩ := q
    unfold dpopD at h2
    split at h2
    · next n =>
      split at h2
      · next kvs hn =>
        split at h2
        · next z hk =>
          split at h2
          · next w hw =>
            obtain ⟨a', e1, hm, so⟩ := S2.cellAt (r1.ext s2.ext) hn
            cases e1
            have q := key_rep S2 r2 hk
            have q : y = kV z := q
            subst q
            cases so with
            | @od _ _ _ ho h3 rr hd nd =>
              cases ho with
              | dK zs =>
                obtain ⟨v, l, rv⟩ := (rr.getK (x := z)).1 w hw
                obtain ⟨S3, s3⟩ := S2.wrC (o := .dK (dropK zs z)) hm (.od upd_same rr.dropK_ (show HO.isD false (.dK _) from trivial) (nodup_drop nd).1)
                exact ⟨zs, z, v, h3, rfl, l, h2 v g2 _ s3 rv S3⟩
              | _ => exact (hd : False).elim
          · exact h2.elim
        · exact h2.elim
      · exact h2.elim
    · exact h2.elim
  · exact h1.elim
/-! ### displays -/
def dnew (t : Bool) : En → Store → Res Slot := fun _ st => .ok (.od t []) st
theorem s_dnewK : SE X W (.Dict [] [] pos) (dnew false) := by
  refine ⟨fun pins s σ H Q I h => ?_⟩
  obtain ⟨g, env, st, os, hv, hos, hS, h⟩ := h
  refine pe_dnewK.run pins s σ H Q I fun q hq => ?_
  obtain ⟨S', s', o'⟩ := hS.newO (o := .dK []) hq
  exact h _ _ _ _ s' o' (.od upd_same .nilK trivial List.nodup_nil) S'
/-! ### whole numbers of a row -/
/-! ### o.f += n -/
def augF (tb : List Str) (f : Str) (j : Int) (o : D) (st : Store) : Option Store := match fldF tb f o st with
  | .ok (.int i) _ => setF tb f o (.int (i + j)) st
  | _ => none
def sFldA (tb : List Str) (f : Str) (j : Int) (fo : En → Store → Res D) : En → Store → ResS := fun env st => (fo env st).go env fun o st => match augF tb f j o st with
  | some st => .nx env st
  | none => .stuck
theorem st_fldaug {f : Str} {tb : List Str} {tpos cpos : Pos} {j : Int} {jj : Nat} (ho : EE X W o fo) (hT : FldTab X.K X.mg f tb) :
    ST X W (.AugAssign (.Attribute o f tpos) .Add (.Constant (.int j) jj cpos) pos) (sFldA tb f j fo) := by
  refine ⟨fun pins s σ H D I h => ?_⟩
  obtain ⟨g, env, st, os, hv, hos, hS, h⟩ := h
  refine (ps_fldaug ho pe_int in_add).run pins s σ H D I ⟨g, env, st, os, hv, hos, hS, (PostSt.go hv hos h).imp fun x H1 q => ?_⟩
  obtain ⟨g1, od, st1, s1, ro, S1, e1, o1, h1⟩ := q
  split at h1
  · next st4 haug =>
    unfold augF at haug
    split at haug
    · next i st2 hq =>
      have hst : ∃ n C fs, od = .ref n ∧ st1[n]? = some (.ins C fs) ∧ C ∈ tb ∧ lkF fs f = some (.int i) := by
        unfold fldF at hq
        split at hq
        · next n =>
          split at hq
          · next C fs hn =>
            split at hq
            · next hm =>
              split at hq
              · next d' hd => cases hq; exact ⟨n, C, fs, rfl, hn, hm, hd⟩
              · cases hq
            · cases hq
          · cases hq
        · cases hq
      obtain ⟨n, C, fs, rfl, hn, hm, hd⟩ := hst
      obtain ⟨a, dx, c, zs, rfl, q1, q2, q3, q4, q5, q6⟩ := S1.objI ro hn
      obtain ⟨c', mc, cl, na⟩ := hT C hm
      rw [q2] at mc
      cases mc
      obtain ⟨v, w1, w2⟩ := (q6.get (f := f)).1 _ hd
      cases w2
      obtain ⟨a', c2, dx2, zs2, e3, z1, z2, z3, z4, z5, z6⟩ := setF_ok S1 ro (.int (i + j)) hT haug
      cases e3
      rw [q3] at z1
      cases z1
      exact ⟨a, c, dx, zs, _, rfl, q3, cl, na, w1, i, j, rfl, rfl, dx, zs, q3, z4, h1 σ g1 _ os (z6.frame os) (e1.step' o1 z6) (o1.step z6) z5⟩
    · cases haug
  · exact (h1 : False).elim
end
end EV
set_option Elab.async false
set_option linter.all false
set_option autoImplicit false
set_option maxRecDepth 100000
set_option maxHeartbeats 400000
/-! a list of the store that is written no more -/
namespace EV
open PySem PySem.Spec PyProof.Rows L2
theorem fpOf_kill : ∀ {m : List (Addr × List Addr)} {n : Nat} {p : Addr × List Addr}, m[n]? = some p → List.Sublist (fpOf (m.set n (p.1, []))) (fpOf m) ∧ ((fpOf m).Nodup → ∀ x ∈ p.2, x ∉ fpOf (m.set n (p.1, [])))
  | [], _, _, e => by simp at e
  | q :: m, 0, p, e => by
    have e : q = p := by simpa using e
    subst e
    rw [List.set_cons_zero, fpOf_cons, fpOf_cons]
    refine ⟨List.sublist_append_right _ _, fun nd x hx hm => ?_⟩
    rw [List.nodup_append] at nd
    exact nd.2.2 x hx x (by simpa using hm) rfl
  | q :: m, n + 1, p, e => by
    have e : m[n]? = some p := by simpa using e
    obtain ⟨h1, h2⟩ := fpOf_kill e
    rw [List.set_cons_succ, fpOf_cons, fpOf_cons]
    refine ⟨h1.append_left _, fun nd x hx hm => ?_⟩
    rw [List.nodup_append] at nd
    rcases List.mem_append.mp hm with hm | hm
    · refine nd.2.2 x hm x ?_ rfl
      unfold fpOf
      exact List.mem_flatMap.mpr ⟨p, List.mem_of_getElem? e, hx⟩
    · exact h2 nd.2.1 x hx hm
theorem rs_kill {m : List (Addr × List Addr)} {n : Nat} {p : Addr × List Addr} (e : m[n]? = some p) : (m.set n (p.1, [])).map (·.1) = m.map (·.1) := by
  rw [List.map_set]
  obtain ⟨hl, e⟩ := List.getElem?_eq_some_iff.mp e
  have : p.1 = (m.map (·.1))[n]'(by rw [List.length_map]; exact hl) := by rw [List.getElem_map, e]
  show (m.map (·.1)).set n p.1 = _
  conv => lhs; rw [this]
  exact List.set_getElem_self _
section
variable {K : PySem.W.Frag} {mg : Str → Option Value}
theorem StOk.kill {g g' : G} {H : Hp} (x : Ext g g') : ∀ {st : Store} {m : List (Addr × List Addr)} {n : Nat} {p : Addr × List Addr}, StOk K mg g H st m → m[n]? = some p → StOk K mg g' H (st.set n .gone) (m.set n (p.1, []))
  | _, _, _, _, .nil, e => by simp at e
  | _, _, 0, p, .cons h t, e => .cons .gone (t.step x fun _ _ => rfl)
  | _, _, n + 1, p, .cons h t, e => .cons (h.step x fun _ _ => rfl) (StOk.kill x t (by simpa using e))
def G.lock (g : G) (n : Nat) (a : Addr) (o : HO) : G := ⟨upd g.kp a o, g.m.set n (a, [])⟩
theorem SOk.lock {g : G} {st : Store} {H : Hp} {n : Nat} {a : Addr} {o : HO} (S : SOk K mg g st H) (hm : g.m[n]? = some (a, [a])) (ha : H a = some o) :
    SOk K mg (g.lock n a o) (st.set n .gone) H ∧ Step g H [] (g.lock n a o) H [] := by
  have hf : a ∈ g.fp := List.mem_flatMap.mpr ⟨(a, [a]), List.mem_of_getElem? hm, by simp⟩
  have hk := S.fr a hf
  obtain ⟨k1, k2⟩ := fpOf_kill hm
  have x : Ext g (g.lock n a o) := ⟨fun b u h => by show upd g.kp a o b = _; rw [upd_ne (ne_of_none h hk)]; exact h, fun i b h => by
    show ((g.m.set n (a, [])).map (·.1))[i]? = _
    rw [rs_kill hm]
    exact h⟩
  refine ⟨⟨fun b u h => ?_, S.nd.sublist k1, fun b hb => ?_, fun b hb => S.th b (k1.subset hb), S.ob.kill x hm⟩, ⟨x, fun _ _ _ _ => rfl, fun _ h => h, fun b hb => .inl (k1.subset hb), fun b h => ?_, fun _ h => nomatch h⟩⟩
  · have h : upd g.kp a o b = some u := h
    by_cases e : b = a
    · subst e; rw [upd_same] at h; rw [ha]; exact h
    · rw [upd_ne e] at h; exact S.kp b u h
  · have hb : b ∈ fpOf (g.m.set n (a, [])) := hb
    show upd g.kp a o b = none
    rw [upd_ne (by rintro rfl; exact k2 S.nd b (by simp) hb)]
    exact S.fr b (k1.subset hb)
  · have h : upd g.kp a o b ≠ none := h
    by_cases e : b = a
    · subst e; exact .inr (.inr (.inr (.inl hf)))
    · rw [upd_ne e] at h; exact .inl h
end
def lockR : D → Store → Res D := fun d st => match d with
  | .ref n => match st[n]? with
    | some (.cell (.ol ds)) => .ok (.lst ds) (st.set n .gone)
    | _ => .ok d st
  | _ => .ok d st
def vLock (f : En → Store → Res D) : En → Store → Res D := fun env st => (f env st).bind lockR
theorem Post.lock {K : PySem.W.Frag} {mg : Str → Option Value} {W : Wi} {g : G} {H : Hp} {σ : L2.St} {r : Res D} {Q : VK} (h : Post K mg (Rep K mg) W g H σ (r.bind lockR) Q) : Post K mg (Rep K mg) W g H σ r Q := by
  cases r with
  | stuck => exact h
  | er x st => exact h
  | ok d st =>
    have h : Post K mg (Rep K mg) W g H σ (lockR d st) Q := h
    unfold lockR at h
    split at h
    · next n =>
      split at h
      · next ds e =>
        intro v g1 H1 s1 rv S1
        obtain ⟨a, vs, rfl, hm, ha, rl⟩ := S1.objL rv e
        obtain ⟨S2, s2⟩ := S1.lock hm ha
        exact h _ _ _ (s1.trans s2) (.lst (show upd g1.kp a (.lst vs) a = _ from upd_same) (rl.ext s2.ext)) S2
      · exact h
    · exact h
end EV
set_option Elab.async false
set_option linter.all false
set_option autoImplicit false
set_option maxRecDepth 100000
set_option maxHeartbeats 400000
/-! the calculus for objects of the store -/
namespace EV
open PySem PySem.Spec PyProof.Rows L2
variable {E : ErP} {Ee : ErS}
section
variable {st : Store} {env : En} {P : D → Store → Prop} {PS : Slot → Store → Prop} {PL : List D → Store → Prop} {nx br ct : NX} {rt : RT} {n : Nat} {C m f x : Str} {fs fs' : List (Str × D)} {d e : D} {o : Option D} {ds : List D} {fo fe fe2 : En → Store → Res D} {fa : En → Store → Res (List D)} {tb : DefTab} {tc : List Str} {ps : List Str} {F : List D → Store → Res D} {t u : D → En → Store → ResS} {us : List D → En → Store → ResS} {i j : Int}
theorem lkF_nil : lkF [] f = none := rfl
theorem lkF_hd : lkF ((f, d) :: fs) f = some d := by
  unfold lkF
  rw [if_pos (by simp)]
theorem lkF_tl (h : (x == f) = false) (q : lkF fs f = o) : lkF ((x, d) :: fs) f = o := by
  unfold lkF
  rw [if_neg (by rw [h]; decide)]
  exact q
theorem putA_hd : putA f d ((f, e) :: fs) = (f, d) :: fs := by
  unfold putA
  rw [if_pos (by simp)]
theorem putA_tl (h : (x == f) = false) (q : putA f d fs = fs') : putA f d ((x, e) :: fs) = (x, e) :: fs' := by
  conv => lhs; unfold putA
  rw [if_neg (by rw [h]; decide), q]
/-- the attributes behind a store, step by step -/
def Ns (fs : List (Str × D)) (Q : List (Str × D) → Prop) : Prop := Q fs
theorem ns_nil {Q : List (Str × D) → Prop} (q : Q [(f, d)]) : Ns (putA f d []) Q := q
theorem ns_hd {Q : List (Str × D) → Prop} (q : Q ((f, d) :: fs)) : Ns (putA f d ((f, e) :: fs)) Q := by unfold Ns; rw [putA_hd]; exact q
theorem ns_tl {Q : List (Str × D) → Prop} (h : (x == f) = false) (q : Ns (putA f d fs) fun r => Q ((x, e) :: r)) : Ns (putA f d ((x, e) :: fs)) Q := by unfold Ns; rw [putA_tl h rfl]; exact q
theorem go_vMeth (q : (fo env st).holds E fun o st => (methD tb m fa env o st).holds E P) : (vMeth tb m fo fa env st).holds E P := by
  unfold vMeth
  rw [Res.holds_bind]
  exact q
theorem go_methD (h : st[n]? = some (.ins C fs)) (hl : lkF fs m = none) (ht : tabF tb C = some (ps, F)) (q : (fa env st).holds E fun ds st => ds.length + 1 = ps.length ∧ (F (.ref n :: ds) st).holds E P) : (methD tb m fa env (.ref n) st).holds E P := by
  unfold methD
  simp only [h, hl, ht]
  rw [Res.holds_bind]
  exact q.imp fun ds st h => go_fnN (by rw [List.length_cons]; exact h.1) h.2
theorem go_mlen {Q : Prop} (h : ds.length + 1 = ps.length) (q : Q) : ds.length + 1 = ps.length ∧ Q := ⟨h, q⟩
theorem go_fld (h : st[n]? = some (.ins C fs)) (hm : C ∈ tc) (hl : lkF fs f = some d) (q : P d st) : (fldF tc f (.ref n) st).holds E P := by
  unfold fldF
  simp only [h, if_pos hm, hl]
  exact q
theorem go_gFld (q : (fo env st).holds (atE Ee env) fun o st => ∃ st', setF tc f o d st = some st' ∧ nx env st') : (gFld tc f fo d env st).runs Ee nx rt br ct := by
  unfold gFld
  refine go_go (q.imp fun o st h => ?_)
  obtain ⟨st', e, h⟩ := h
  rw [e]
  exact h
theorem go_setF {Q : Store → Prop} (h : st[n]? = some (.ins C fs)) (hm : C ∈ tc) (hz : fs.length < 1000) (q : Ns (putA f d fs) fun fs' => Q (st.set n (.ins C fs'))) : ∃ st', setF tc f (.ref n) d st = some st' ∧ Q st' := by
  refine ⟨_, ?_, q⟩
  unfold setF
  simp only [h, if_pos (And.intro hm hz)]
theorem go_gTp {k : Nat} (hl : ds.length = k) (q : (us ds env st).runs Ee nx rt br ct) : (gTp k us (.tup ds) env st).runs Ee nx rt br ct := by
  unfold gTp
  simp only [if_pos hl]
  exact q
theorem go_gsC (q : (t d env st).runs Ee (fun env st => (us ds env st).runs Ee nx noR no no) noR no no) : (gsC t us (d :: ds) env st).runs Ee nx noR no no := by
  unfold gsC
  revert q
  show (t d env st).runs Ee _ _ _ _ → (match t d env st with | .nx env st => us ds env st | .er e env st => .er e env st | _ => .stuck : ResS).runs Ee _ _ _ _
  generalize t d env st = r
  intro q
  cases r with
  | nx env1 st1 => exact q
  | er e env1 st1 => exact q
  | _ => exact (q : False).elim
theorem go_gsN (q : nx env st) : (gsN [] env st).runs Ee nx rt br ct := q
theorem go_gN {k : Nat} (q : nx (env.set k (.vl d)) st) : (gN k d env st).runs Ee nx rt br ct := q
theorem go_fldA (q : (fo env st).holds (atE Ee env) fun o st => ∃ st', augF tc f j o st = some st' ∧ nx env st') : (sFldA tc f j fo env st).runs Ee nx rt br ct := by
  unfold sFldA
  refine go_go (q.imp fun o st h => ?_)
  obtain ⟨st', e, h⟩ := h
  rw [e]
  exact h
theorem go_augF {Q : Store → Prop} (h : st[n]? = some (.ins C fs)) (hm : C ∈ tc) (hl : lkF fs f = some (.int i)) (hz : fs.length < 1000) (q : Ns (putA f (.int (i + j)) fs) fun fs' => Q (st.set n (.ins C fs'))) : ∃ st', augF tc f j (.ref n) st = some st' ∧ Q st' := by
  refine ⟨_, ?_, q⟩
  unfold augF fldF setF
  simp only [h, if_pos hm, hl, if_pos (And.intro hm hz)]
theorem go_makeD {k : Nat} (hl : ds.length + 1 = k) (q : (F (.ref st.length :: ds) (st ++ [.ins C []])).holds E fun d st' => d = .non ∧ P (.ref st.length) st') : (makeD C k F ds st).holds E P := by
  unfold makeD
  rw [Res.holds_bind]
  exact go_fnN (by rw [List.length_cons]; exact hl) (q.imp fun d st' h => by rw [h.1]; exact h.2)
theorem go_vBm {G : D → D → Store → Res D} (q : (fo env st).holds E fun o st => isLR st o = true ∧ (fe env st).holds E fun d st => (G o d st).holds E P) : (vBm G fo fe env st).holds E P := by
  unfold vBm
  rw [Res.holds_bind]
  refine q.imp fun o st h => ?_
  rw [if_pos h.1, Res.holds_bind]
  exact h.2
theorem go_isLR {Q : Prop} (h : st[n]? = some (.cell (.ol ds))) (q : Q) : isLR st (.ref n) = true ∧ Q := ⟨by unfold isLR; simp only [h], q⟩
theorem go_appD (h : st[n]? = some (.cell (.ol ds))) (hz : ds.length < 100000) (q : P .non (st.set n (.cell (.ol (ds ++ [d]))))) : (appD (.ref n) d st).holds E P := by
  unfold appD appR
  simp only [h, if_pos (Nat.lt_of_lt_of_le hz line100000)]
  exact q
theorem go_popD (h : st[n]? = some (.cell (.ol ds))) (hi : 0 ≤ i ∧ i < ds.length ∧ ds.length ≤ 1000000) (q : ∀ x, ds[i.toNat]? = some x → P x (st.set n (.cell (.ol (ds.eraseIdx i.toNat))))) : (popD (.ref n) (.int i) st).holds E P := by
  unfold popD
  have hlt : i.toNat < ds.length := by omega
  simp only [h, if_pos hi, List.getElem?_eq_getElem hlt]
  exact q _ (List.getElem?_eq_getElem hlt)
theorem go_vBd {G : D → D → Store → Res D} (q : (fo env st).holds E fun o st => isDR st o = true ∧ (fe env st).holds E fun d st => (G o d st).holds E P) : (vBd G fo fe env st).holds E P := by
  unfold vBd
  rw [Res.holds_bind]
  refine q.imp fun o st h => ?_
  rw [if_pos h.1, Res.holds_bind]
  exact h.2
theorem go_isDR {Q : Prop} {kvs : List (DK × D)} {k : Bool} (h : st[n]? = some (.cell (.od k kvs))) (q : Q) : isDR st (.ref n) = true ∧ Q := ⟨by unfold isDR dictOf; simp only [h, Option.isSome_some], q⟩
theorem go_dpopD {kvs : List (DK × D)} {k : Key} (h : st[n]? = some (.cell (.od false kvs))) (hk : dkOf e = some (.k k)) (hd : lkD kvs (.k k) = some d) (q : P d (st.set n (.cell (.od false (dropD kvs (.k k)))))) : (dpopD (.ref n) e st).holds E P := by
  unfold dpopD
  simp only [h, hk, hd]
  exact q
theorem go_dnew {t : Bool} (q : PS (.od t []) st) : (dnew t env st).holds E PS := q
theorem go_toRefD {t : Bool} {kvs : List (DK × D)} (q : P (.ref st.length) (st ++ [.cell (.od t kvs)])) : (toRef (.od t kvs) st).holds E P := q
/-! is None -/
theorem go_isN1 {y : Nat} (q : P (.bl false) st) : (isD (.ref y) .non st).holds E P := q
theorem go_isN2 (q : P (.bl true) st) : (isD .non .non st).holds E P := q
theorem go_isN3 (q : P (.bl false) st) : (isD (.tup ds) .non st).holds E P := q
theorem go_isN4 (q : P (.bl false) st) : (isD (.int i) .non st).holds E P := q
theorem go_isN5 (q : P (.bl false) st) : (isD (.str x) .non st).holds E P := q
theorem go_isN6 (q : P (.bl false) st) : (isD (.lst ds) .non st).holds E P := q
theorem go_isntN1 {y : Nat} (q : P (.bl true) st) : (isntD (.ref y) .non st).holds E P := q
theorem go_isntN2 (q : P (.bl false) st) : (isntD .non .non st).holds E P := q
theorem go_isntN3 (q : P (.bl true) st) : (isntD (.tup ds) .non st).holds E P := q
theorem go_isntN4 (q : P (.bl true) st) : (isntD (.int i) .non st).holds E P := q
theorem go_isntN5 (q : P (.bl true) st) : (isntD (.str x) .non st).holds E P := q
theorem go_isntN6 (q : P (.bl true) st) : (isntD (.lst ds) .non st).holds E P := q
/-! ==, repr by what is seen -/
theorem go_eqX {x y : D} {b : Bool} (h : eqB st x y = some b) (q : P (.bl b) st) : (eqD x y st).holds E P := by
  unfold eqD
  rw [h]
  exact q
theorem go_neX {x y : D} {b : Bool} (h : eqB st x y = some b) (q : P (.bl (!b)) st) : (neD x y st).holds E P := by
  unfold neD
  rw [h]
  exact q
theorem go_lenR (h : st[n]? = some (.cell (.ol ds))) (q : P (.int ds.length) st) : (lenD [.ref n] st).holds E P := by
  unfold lenD
  simp only [h]
  exact q
theorem go_lenRD {kvs : List (DK × D)} (h : st[n]? = some (.cell (.od false kvs))) (q : P (.int kvs.length) st) : (lenD [.ref n] st).holds E P := by
  unfold lenD
  simp only [h]
  exact q
theorem go_tupR (h : st[n]? = some (.cell (.ol ds))) (q : P (.tup ds) st) : (tupOfD [.ref n] st).holds E P := by
  unfold tupOfD
  simp only [h]
  exact q
theorem go_listR (h : st[n]? = some (.cell (.ol ds))) (q : PS (.ol ds) st) : (listOf [.ref n] st).holds E PS := by
  unfold listOf
  simp only [h]
  exact q
theorem go_ixR (h : st[n]? = some (.cell (.ol ds))) (hi : atI ds i = some d) (q : P d st) : (ixD (.ref n) (.int i) st).holds E P := by
  refine go_ix ?_ q
  show (match st[n]? with | some (.cell (.ol ds)) => atI ds i | _ => none) = _
  rw [h]
  exact hi
theorem go_setRL {Q : Store → Prop} {k : Nat} (h : st[n]? = some (.cell (.ol ds))) (hi : ixN ds.length i = some k) (q : Q (st.set n (.cell (.ol (ds.set k d))))) : ∃ st', setR (.ref n) (.int i) d st = some st' ∧ Q st' := by
  refine ⟨_, ?_, q⟩
  unfold setR
  simp only [h, hi]
theorem go_setRD {Q : Store → Prop} {t : Bool} {kvs : List (DK × D)} {k : DK} (h : st[n]? = some (.cell (.od t kvs))) (hk : dkOf e = some k) (ht : k.isT = t) (hz : kvs.length < 100000) (q : Q (st.set n (.cell (.od t (putD kvs k d))))) : ∃ st', setR (.ref n) e d st = some st' ∧ Q st' := by
  refine ⟨_, ?_, q⟩
  unfold setR
  simp only [h, hk, if_pos (And.intro ht (Nat.lt_of_lt_of_le hz line100000))]
end
mutual
theorem pd_rsvW (f : Nat → Option D) : ∀ (d : D) (p : PyData), d.pd = some p → rsvW f d = some d
  | .non, _, _ => by unfold rsvW; rfl
  | .bl _, _, _ => by unfold rsvW; rfl
  | .int _, _, _ => by unfold rsvW; rfl
  | .str _, _, _ => by unfold rsvW; rfl
  | .tup xs, p, e => by
    unfold D.pd at e
    unfold rsvW
    cases h : D.pds xs with
    | none => rw [h] at e; cases e
    | some ps => rw [pds_rsvW f xs ps h]; rfl
  | .lst xs, p, e => by
    unfold D.pd at e
    unfold rsvW
    cases h : D.pds xs with
    | none => rw [h] at e; cases e
    | some ps => rw [pds_rsvW f xs ps h]; rfl
  | .dct _, _, e => by unfold D.pd at e; cases e
  | .st _, _, e => by unfold D.pd at e; cases e
  | .ref _, _, e => by unfold D.pd at e; cases e
  | .fn _, _, e => by unfold D.pd at e; cases e
  | .ty _, _, e => by unfold D.pd at e; cases e
  | .scr _, _, e => by unfold D.pd at e; cases e
theorem pds_rsvW (f : Nat → Option D) : ∀ (ds : List D) (ps : List PyData), D.pds ds = some ps → rsvWs f ds = some ds
  | [], _, _ => by unfold rsvWs; rfl
  | x :: xs, ps, e => by
    unfold D.pds at e
    split at e
    · next a b ha hb =>
      unfold rsvWs
      rw [pd_rsvW f x a ha, pds_rsvW f xs b hb]
    · cases e
end
theorem pd_rsv {st : Store} {n : Nat} {d : D} {p : PyData} (e : d.pd = some p) : rsv st n d = some d := by
  cases n with
  | zero => unfold rsv; exact pd_rsvW _ d p e
  | succ n => unfold rsv; exact pd_rsvW _ d p e
theorem pdR_rsv {st : Store} {d d' : D} {p : PyData} (h : rsv st 3 d = some d') (e : d'.pd = some p) : pdR st d = some p := by
  unfold pdR
  cases q : d.pd with
  | none => rw [h]; exact e
  | some p' =>
    rw [pd_rsv q] at h
    cases h
    rw [q] at e
    exact e
section
variable {st : Store} {P : D → Store → Prop} {N n w : Nat} {d x y : D}
theorem eqv_refl0 : ∀ d : PyData, d.canLay0 = true → d.hasDict = false → PyData.eqv d d = true := fun d h hd => by
  exact SeqAt.eqv_refl d (by first | exact h | exact ⟨h, hd⟩)
theorem eqB_same (hx : rsv st 3 x = some d) (hy : rsv st 3 y = some d) (g : Gd N n w d) (hN : N ≤ 10 ^ 12) (hn : n ≤ 64) : eqB st x y = some true := by
  obtain ⟨p, e, h1, h2, h3, h4, h5, h6⟩ := pl_pd hN d g.1
  have a1 := pdR_rsv hx e
  have a2 := pdR_rsv hy e
  have sh : SeqAt.shaped p = true := by
    unfold SeqAt.shaped
    rw [h3]
    simp only [Bool.true_and, decide_eq_true_eq]
    rw [h4]
    exact Nat.le_trans g.2.1 hn
  have rf : PyData.eqv p p = true := eqv_refl0 p h3 h2
  have fin : (match pdR st x, pdR st y with
    | some a, some b => if SeqAt.shaped a = true ∧ SeqAt.shaped b = true then some (PyData.eqv a b) else none
    | _, _ => none) = some true := by
    rw [a1, a2]
    simp only [sh, and_self, if_true, rf]
  unfold eqB
  split
  case h_13 => exact fin
  all_goals
    (first
      | rfl
      | (have z1 := a1; have z2 := a2; unfold pdR D.pd at z1 z2; simp only [Option.some.injEq] at z1 z2; rw [← z1] at z2; first | (cases z2; simp) | (cases z2)))
end
theorem go_vLock {env : En} {st : Store} {P : D → Store → Prop} {fo : En → Store → Res D} (q : (fo env st).holds E fun o st => (lockR o st).holds E P) : (vLock fo env st).holds E P := by
  unfold vLock
  rw [Res.holds_bind]
  exact q
theorem go_lockR {st : Store} {P : D → Store → Prop} {n : Nat} {ds : List D} (h : st[n]? = some (.cell (.ol ds))) (q : P (.lst ds) (st.set n .gone)) : (lockR (.ref n) st).holds E P := by
  unfold lockR
  simp only [h]
  exact q
def Par2 (i j : Nat) (env : En) (ds : List D) (st : Store) (nx : NX) : Prop := match ds with
  | [a, b] => nx ((env.set i (.vl a)).set j (.vl b)) st
  | _ => False
theorem go_par {nx br ct : NX} {rt : RT} {i j : Nat} {f : En → Store → Res (List D)} {env : En} {st : Store} (q : (f env st).holds (atE Ee env) fun ds st => Par2 i j env ds st nx) : (sPar i j f env st).runs Ee nx rt br ct := by
  unfold sPar
  refine go_go (q.imp fun ds st h => ?_)
  unfold Par2 at h
  split at h
  · exact h
  · exact h.elim
theorem go_par2 {nx : NX} {i j : Nat} {env : En} {st : Store} {a b : D} (q : nx ((env.set i (.vl a)).set j (.vl b)) st) : Par2 i j env [a, b] st nx := q
mutual
theorem rsvW_pl {N : Nat} {f : Nat → Option D} : ∀ d : D, pl N d = true → rsvW f d = some d
  | .tup xs, h => by unfold pl at h; unfold rsvW; rw [rsvWs_pl xs h]; rfl
  | .lst xs, h => by unfold pl at h; unfold rsvW; rw [rsvWs_pl xs h]; rfl
  | .non, _ => by unfold rsvW; rfl
  | .bl _, _ => by unfold rsvW; rfl
  | .int _, _ => by unfold rsvW; rfl
  | .str _, _ => by unfold rsvW; rfl
  | .dct _, h => by unfold pl at h; cases h
  | .st _, h => by unfold pl at h; cases h
  | .ref _, h => by unfold pl at h; cases h
  | .fn _, h => by unfold pl at h; cases h
  | .ty _, h => by unfold pl at h; cases h
  | .scr _, h => by unfold pl at h; cases h
theorem rsvWs_pl {N : Nat} {f : Nat → Option D} : ∀ ds : List D, pls N ds = true → rsvWs f ds = some ds
  | [], _ => by unfold rsvWs; rfl
  | x :: xs, h => by
    unfold pls at h
    obtain ⟨a, b⟩ := Bool.and_eq_true_iff.mp h
    unfold rsvWs
    rw [rsvW_pl x a, rsvWs_pl xs b]
end
theorem rsv_pl {N n : Nat} {st : Store} {d : D} (h : pl N d = true) : rsv st n d = some d := by
  cases n with
  | zero => exact rsvW_pl d h
  | succ n => exact rsvW_pl d h
theorem go_eqG {st : Store} {P : D → Store → Prop} {d : D} (g : Gd (10 ^ 12) 64 1000000 d) (q : P (.bl true) st) : (eqD d d st).holds E P := go_eqX (eqB_same (rsv_pl g.1) (rsv_pl g.1) g (Nat.le_refl _) (Nat.le_refl _)) q
theorem go_neG {st : Store} {P : D → Store → Prop} {d : D} (g : Gd (10 ^ 12) 64 1000000 d) (q : P (.bl false) st) : (neD d d st).holds E P := go_neX (eqB_same (rsv_pl g.1) (rsv_pl g.1) g (Nat.le_refl _) (Nat.le_refl _)) q
theorem go_isiR {st : Store} {P : D → Store → Prop} {n : Nat} {ds : List D} (h : st[n]? = some (.cell (.ol ds))) (q : P (.bl true) st) : (isiD [.ref n, .ty "list"] st).holds E P := by
  unfold isiD tyR
  simp only [h]
  rw [if_pos (by decide)]
  exact q
/-! loops whose invariant does not tell the row of names again -/
/-! list comprehensions, turn by turn -/
def LcP (p : Pat) (tt : En → Store → Res Bool) (te : En → Store → Res D) (env : En) (ds : List D) (st : Store) (Q : List D → Store → Prop) : Prop := (lcL p tt te env ds st).holds noE Q
section
variable {p : Pat} {tt : En → Store → Res Bool} {te : En → Store → Res D} {env : En} {st : Store} {Q : List D → Store → Prop} {d : D} {ds bs : List D}
theorem go_lc0 {fi : En → Store → Res (List D)} {vs : List Nat} {PS : Slot → Store → Prop} (q : (fi env st).holds E fun ds st => Nm (wipeE env vs) fun env => LcP p tt te env ds st fun ys st => ys.length ≤ 1000 ∧ PS (.ol ys) st) : (vLc fi p vs tt te env st).holds E PS := by
  unfold vLc
  rw [Res.holds_bind]
  refine q.imp fun ds st h => ?_
  refine Res.holds.any ?_
  rw [Res.holds_bind0]
  exact Res.holds.imp h fun ys st h => go_mkLst h.1 h.2
theorem lcp_nil (q : Q [] st) : LcP p tt te env [] st Q := q
theorem lcp_cons {bs : List (Nat × D)} (hb : Pat.bind p d = some bs) (q : Nm (bindE env bs) fun e => (tt e st).holds noE fun c st => (c = true → (te e st).holds noE fun y st => LcP p tt te env ds st fun ys st => Q (y :: ys) st) ∧ (c = false → LcP p tt te env ds st Q)) : LcP p tt te env (d :: ds) st Q := by
  unfold LcP lcL
  rw [hb]
  show (Res.bind0 (tt (bindE env bs) st) _).holds noE Q
  rw [Res.holds_bind0]
  refine Res.holds.imp q fun c st h => ?_
  cases c with
  | true =>
    rw [if_pos rfl, Res.holds_bind0]
    refine (h.1 rfl).imp fun y st h => ?_
    rw [Res.holds_bind0]
    exact Res.holds.imp h fun ys st h => h
  | false => exact h.2 rfl
theorem lcp_consY {bs : List (Nat × D)} (hb : Pat.bind p d = some bs) (q : Nm (bindE env bs) fun e => (te e st).holds noE fun y st => LcP p ttYes te env ds st fun ys st => Q (y :: ys) st) : LcP p ttYes te env (d :: ds) st Q := by
  exact lcp_cons hb (And.intro (fun _ => q) (fun h => nomatch h))
theorem lcp_inv (I : List D → List D → Store → Prop) (hs : ∀ d r ys st, I (d :: r) ys st → ∃ bs, Pat.bind p d = some bs ∧ Nm (bindE env bs) fun e => (te e st).holds noE fun y st => I r (ys ++ [y]) st) : ∀ {ds : List D} {ys : List D} {st : Store} {Q : List D → Store → Prop}, I ds ys st → (∀ zs st, I [] (ys ++ zs) st → Q zs st) → LcP p ttYes te env ds st Q
  | [], ys, st, Q, h, q => lcp_nil (q [] st (by rw [List.append_nil]; exact h))
  | d :: ds, ys, st, Q, h, q => by
    obtain ⟨bs, hb, h⟩ := hs d ds ys st h
    exact lcp_consY hb (Res.holds.imp h fun y st h => lcp_inv I hs h fun zs st h => q (y :: zs) st (by rw [List.append_cons]; exact h))
theorem lcp_rng {lo : Int} {n : Nat} (I : Nat → List D → Store → Prop) (h0 : I 0 [] st) (hn : ∀ ys st, I n ys st → Q ys st) (hs : ∀ (m : Nat) ys st, m < n → I m ys st → ∃ bs, Pat.bind p (.int (lo + (m : Int))) = some bs ∧ Nm (bindE env bs) fun e => (te e st).holds noE fun y st => I (m + 1) (ys ++ [y]) st) : LcP p ttYes te env (rngD lo n) st Q := by
  refine lcp_inv (fun ds ys st => ∃ m k, m + k = n ∧ ds = (List.range' m k).map (fun (i : Nat) => D.int (lo + (i : Int))) ∧ I m ys st) ?_ (ys := []) ⟨0, n, by omega, ?_, h0⟩ ?_
  · rintro d r ys st ⟨m, k, e, h, hI⟩
    cases k with
    | zero => cases h
    | succ k =>
      rw [List.range'_succ, List.map_cons] at h
      injection h with h1 h2
      subst h1
      obtain ⟨bs, hb, q⟩ := hs m ys st (by omega) hI
      exact ⟨bs, hb, Res.holds.imp q fun y st q => ⟨m + 1, k, by omega, h2, q⟩⟩
  · unfold rngD
    rw [List.range_eq_range']
  · rintro zs st ⟨m, k, e, h, hI⟩
    cases k with
    | zero =>
      have : m = n := by omega
      subst this
      exact hn zs st hI
    | succ k => rw [List.range'_succ, List.map_cons] at h; cases h
theorem intsOf_map : ∀ ts : List Int, intsOf (ts.map D.int) = some ts
  | [] => rfl
  | t :: ts => by
    rw [List.map_cons]
    unfold intsOf
    rw [intsOf_map ts]
    rfl
end
/-! what may be shown, by parts -/
theorem Gd.fit {N n w N' n' w' : Nat} {d : D} (h : Gd N n w d) (a : N ≤ N') (b : n ≤ n') (c : w ≤ w') : Gd N' n' w' d := (h.up a).le b c
theorem Gd.fitw {N n w w' : Nat} {d : D} (h : Gd N n w d) (c : w ≤ w') : Gd N n w' d := h.le (Nat.le_refl _) c
theorem Gds.consL {N n w : Nat} {d : D} {ds : List D} (h1 : Gd N n 200 d) (h3 : 201 ≤ w) (h2 : Gds N n (w - 201) ds) : Gds N n w (d :: ds) := (Gds.cons h1 h2).le (Nat.le_refl _) (by omega)
theorem Gds.consH {N n w : Nat} {d : D} {ds : List D} (h1 : Gd N n (w / 2) d) (h3 : 1 ≤ w) (h2 : Gds N n (w - w / 2 - 1) ds) : Gds N n w (d :: ds) := (Gds.cons h1 h2).le (Nat.le_refl _) (by omega)
theorem gd_non {N n : Nat} : Gd N n 0 .non := ⟨by unfold pl; rfl, by unfold dep; omega, by unfold wt; omega⟩
theorem gd_bl {N n : Nat} {b : Bool} : Gd N n 0 (.bl b) := ⟨by unfold pl; rfl, by unfold dep; omega, by unfold wt; omega⟩
theorem Gd.tupP {N n w : Nat} {ds : List D} (h : 0 < n) (q : Gds N (n - 1) w ds) : Gd N n w (.tup ds) := by
  obtain ⟨m, rfl⟩ : ∃ m, n = m + 1 := ⟨n - 1, by omega⟩
  exact Gd.tup q
theorem Gd.lstP {N n w : Nat} {ds : List D} (h : 0 < n) (q : Gds N (n - 1) w ds) : Gd N n w (.lst ds) := by
  obtain ⟨m, rfl⟩ : ∃ m, n = m + 1 := ⟨n - 1, by omega⟩
  exact Gd.lst q
theorem go_le1000 {α : Type} {xs : List α} {Q : Prop} {k : Nat} (h : xs.length ≤ k) (q : Q) : xs.length ≤ k ∧ Q := ⟨h, q⟩
end EV
set_option Elab.async false
set_option linter.all false
set_option autoImplicit false
set_option maxRecDepth 100000
set_option maxHeartbeats 1000000
/-! enumerate, zip, reversed: what is walked -/
namespace EV
open PySem PySem.Spec PyProof.Rows L2
/-! ### enumerate of a tuple -/
section
variable {X : Cx} {W : Wi} {pos : Pos}
/-- the pairs of enumerate -/
def enumD : Nat → List D → List D
  | _, [] => []
  | i, d :: ds => .tup [.int (i : Int), d] :: enumD (i + 1) ds
def zipD (xs ys : List D) : List D := List.zipWith (fun a b => D.tup [a, b]) xs ys
def enumF : List D → Store → Res (List D) := fun ds st => match ds with
  | [.lst xs] => .ok (enumD 0 xs) st
  | [.tup xs] => .ok (enumD 0 xs) st
  | _ => .stuck
def zipF : List D → Store → Res (List D) := fun ds st => match ds with
  | [.lst xs, .lst ys] => .ok (zipD xs ys) st
  | [.tup xs, .tup ys] => .ok (zipD xs ys) st
  | _ => .stuck
def revdF : D → Store → Res (List D) := fun d st => match d with
  | .lst xs => .ok xs.reverse st
  | .tup xs => .ok xs.reverse st
  | _ => .stuck
end
end EV
set_option Elab.async false
set_option linter.all false
set_option autoImplicit false
set_option maxRecDepth 100000
set_option maxHeartbeats 1000000
/-! rows of whole numbers -/
namespace EV
open PySem PySem.Spec PyProof.Rows L2
variable {E : ErP} {Ee : ErS}
section
variable {st : Store} {PL : List D → Store → Prop} {xs ys : List D}
theorem go_enumL (q : PL (enumD 0 xs) st) : (enumF [.lst xs] st).holds E PL := q
theorem go_enumT (q : PL (enumD 0 xs) st) : (enumF [.tup xs] st).holds E PL := q
theorem go_zipL (q : PL (zipD xs ys) st) : (zipF [.lst xs, .lst ys] st).holds E PL := q
theorem go_zipT (q : PL (zipD xs ys) st) : (zipF [.tup xs, .tup ys] st).holds E PL := q
theorem go_revdL (q : PL xs.reverse st) : (revdF (.lst xs) st).holds E PL := q
theorem go_revdT (q : PL xs.reverse st) : (revdF (.tup xs) st).holds E PL := q
end
theorem shaped_of {N n w : Nat} {d : D} {q : PyData} (g : Gd N n w d) (hN : N ≤ 10 ^ 12) (hn : n ≤ 64) (e : d.pd = some q) : SeqAt.shaped q = true := by
  obtain ⟨q', e', h1, h2, h3, h4, h5, h6⟩ := pl_pd hN d g.1
  rw [e] at e'
  cases e'
  unfold SeqAt.shaped
  rw [h3]
  simp only [Bool.true_and, decide_eq_true_eq]
  rw [h4]
  exact Nat.le_trans g.2.1 hn
end EV
set_option Elab.async false
set_option linter.all false
set_option autoImplicit false
set_option maxRecDepth 100000
set_option maxHeartbeats 1000000
/-! list(range(a, b, -1)) -/
namespace EV
open PySem PySem.Spec PyProof.Rows L2
variable {E : ErP} {Ee : ErS}
/-! three names at once; x.extend(a list) -/
def sPar3 (i j l : Nat) (f : En → Store → Res (List D)) : En → Store → ResS := fun env st => (f env st).go env fun ds st => match ds with
  | [a, b, c] => .nx (((env.set i (.vl a)).set j (.vl b)).set l (.vl c)) st
  | _ => .stuck
def sExt (i : Nat) (fe : En → Store → Res D) : En → Store → ResS := fun env st => match env[i]? with
  | some (.ol ds) => (fe env st).go env fun d st => match d with
    | .lst zs => if ds.length + zs.length ≤ sizeLine then .nx (env.set i (.ol (ds ++ zs))) st else .stuck
    | _ => .stuck
  | _ => .stuck
def Par3 (i j l : Nat) (env : En) (ds : List D) (st : Store) (nx : NX) : Prop := match ds with
  | [a, b, c] => nx (((env.set i (.vl a)).set j (.vl b)).set l (.vl c)) st
  | _ => False
theorem go_par3 {nx br ct : NX} {rt : RT} {i j l : Nat} {f : En → Store → Res (List D)} {env : En} {st : Store} (q : (f env st).holds (atE Ee env) fun ds st => Par3 i j l env ds st nx) : (sPar3 i j l f env st).runs Ee nx rt br ct := by
  unfold sPar3
  refine go_go (q.imp fun ds st h => ?_)
  unfold Par3 at h
  split at h
  · exact h
  · exact h.elim
theorem go_par3e {nx : NX} {i j l : Nat} {env : En} {st : Store} {a b c : D} (q : Nm (((env.set i (.vl a)).set j (.vl b)).set l (.vl c)) fun env => nx env st) : Par3 i j l env [a, b, c] st nx := q
def Ext1 (i : Nat) (env : En) (ds : List D) (d : D) (st : Store) (nx : NX) : Prop := ∃ zs, d = .lst zs ∧ ds.length + zs.length ≤ 100000 ∧ nx (env.set i (.ol (ds ++ zs))) st
theorem go_ext {nx br ct : NX} {rt : RT} {i : Nat} {fe : En → Store → Res D} {env : En} {st : Store} {ds : List D} (h : env[i]? = some (.ol ds)) (q : (fe env st).holds (atE Ee env) fun d st => Ext1 i env ds d st nx) : (sExt i fe env st).runs Ee nx rt br ct := by
  unfold sExt
  rw [h]
  refine go_go (q.imp fun d st h => ?_)
  obtain ⟨zs, rfl, hz, h⟩ := h
  show ResS.runs (if ds.length + zs.length ≤ sizeLine then _ else _) _ _ _ _ _
  rw [if_pos (Nat.le_trans hz line100000)]
  exact h
theorem go_ext1 {nx : NX} {i : Nat} {env : En} {st : Store} {ds zs : List D} (hz : ds.length + zs.length ≤ 100000) (q : Nm (env.set i (.ol (ds ++ zs))) fun env => nx env st) : Ext1 i env ds (.lst zs) st nx := ⟨zs, rfl, hz, q⟩
end EV
set_option Elab.async false
set_option linter.all false
set_option autoImplicit false
set_option maxRecDepth 100000
set_option maxHeartbeats 1000000
/-! dict comprehensions; tuples and dicts of the module -/
namespace EV
open PySem PySem.Spec PyProof.Rows L2
variable {E : ErP} {Ee : ErS}
def strsOf : List D → Option (List Str)
  | [] => some []
  | .str w :: r => (strsOf r).map (w :: ·)
  | _ :: _ => none
theorem strsOf_map : ∀ ws : List Str, strsOf (ws.map D.str) = some ws
  | [] => rfl
  | w :: ws => by
    show (strsOf (ws.map D.str)).map (w :: ·) = _
    rw [strsOf_map ws]
    rfl
/-- a text in a constant tuple of texts -/
def inK : D → D → Store → Res D := fun x y st => match x, y with
  | .str z, .st ys => match strsOf ys with
    | some ws => .ok (.bl (ws.any fun w => w == z)) st
    | none => .stuck
  | _, _ => .stuck
section
variable {X : Cx} {W : Wi}
def gTpK (n : Nat) (t : List D → En → Store → ResS) : D → En → Store → ResS := fun d env st => match d with
  | .st ds => if ds.length = n then t ds env st else .stuck
  | _ => .stuck
end
/-! a dict of the module: texts to tuples of texts -/
section
variable {st : Store} {P : D → Store → Prop} {env : En}
theorem go_inK {z : Str} {ws : List Str} (q : P (.bl (ws.any fun w => w == z)) st) : (inK (.str z) (.st (ws.map .str)) st).holds E P := by
  show Res.holds (match strsOf (ws.map D.str) with
    | some ws => .ok (.bl (ws.any fun w => w == z)) st
    | none => .stuck) E P
  rw [strsOf_map]
  exact q
theorem go_gTpK {k : Nat} {us : List D → En → Store → ResS} {ds : List D} {nx br ct : NX} {rt : RT} (hl : ds.length = k) (q : (us ds env st).runs Ee nx rt br ct) : (gTpK k us (.st ds) env st).runs Ee nx rt br ct := by
  unfold gTpK
  simp only [if_pos hl]
  exact q
end
end EV
set_option Elab.async false
set_option linter.all false
set_option autoImplicit false
set_option maxRecDepth 100000
set_option maxHeartbeats 1000000
/-! comprehensions over a list of the store; while -/
namespace EV
open PySem PySem.Spec PyProof.Rows L2
variable {E : ErP} {Ee : ErS}
theorem go_while {t : En → Store → Res Bool} {b : En → Store → ResS} {nx br ct : NX} {rt : RT} (I : Nat → En → Store → Prop)
    (hs : ∀ k env st, I k env st → (t env st).holds (atE Ee env) fun c st => (c = true → ∃ j, j < k ∧ (b env st).runs Ee (I j) rt nx (I j)) ∧ (c = false → nx env st)) : ∀ {n k : Nat} {env : En} {st : Store}, k < n → I k env st → (whL t b n env st).runs Ee nx rt br ct
  | 0, k, _, _, hk, _ => absurd hk (Nat.not_lt_zero k)
  | n + 1, k, env, st, hk, h0 => by
    show (Res.go env (t env st) fun c st => if c = true then (match b env st with
      | .nx env st => whL t b n env st
      | .ct env st => whL t b n env st
      | .br env st => .nx env st
      | r => r) else .nx env st).runs Ee nx rt br ct
    refine go_go ((hs k env st h0).imp fun c st1 h => ?_)
    cases c with
    | false => exact h.2 rfl
    | true =>
      rw [if_pos rfl]
      obtain ⟨j, hj, hr⟩ := h.1 rfl
      revert hr
      generalize b env st1 = r
      intro hr
      cases r with
      | nx e s => exact go_while I hs (by omega) hr
      | ct e s => exact go_while I hs (by omega) hr
      | br e s => exact hr
      | rt d s => exact hr
      | er e e' s => exact hr
      | stuck => exact hr
end EV
set_option Elab.async false
set_option linter.all false
set_option autoImplicit false
set_option maxRecDepth 100000
set_option maxHeartbeats 1000000
/-! own exceptions: made with their fields, raised -/
namespace EV
open PySem PySem.Spec PyProof.Rows L2
/-- what making an own exception asks of the built-in class B that lends its __new__, the classes above the own one being bm -/
structure MadeX (B newId initId : String) (bm : List Value) : Prop where
  call : ExcCallFacts B newId initId
  split : splitId newId = some (B, "__new__")
  kind : builtinKind newId = some .builtinFn
  row : Manifest.signature? newId = some ⟨.any, B, B, .cls, [⟨"args", .varPos, false⟩, ⟨"kwargs", .varKw, false⟩]⟩
  canon : Manifest.canonical newId = Manifest.canonical "BaseException.__new__"
  has : bm.contains (.type B) = true
  noA : bm.contains (.type "AttributeError") = false
  noN : bm.contains (.type "NameError") = false
theorem MadeX.of {B newId initId : String} {bm : List Value} (F : ExcBaseFacts B newId initId bm) : MadeX B newId initId bm := ⟨F.toExcCallFacts, F.newSplit, F.newKind, F.newRow, F.canon, F.hasB, F.noAttr, F.noName⟩
section
variable {prog : Program} {w : World} {A : Around} {R : Result → Shared → Prop} {h : Heap} {g : Array GenState} {d : Drawn} {t : Nat} {os : OsState}
variable {nm q : Str} {C N : Addr} {bs bm bmB : List Value} {hdct : Bool} {sn : List Str} {sub : List Value} {ab : Bool} {col : Option Bool} {dd : Option Addr} {k0 k1 k2 k3 k5 : Option Value} {B newId initId : String}
theorem mx_check {M : Model} {E : Value → Shared → Prop} (F : MadeX B newId initId bmB) (hT : ∀ X : String, bm.contains (.type X) = bmB.contains (.type X)) {rest : List Value} {Q : Unit → Shared → Prop}
    (hC : h.get? C = some (excClassObj nm q C N bs bm hdct sn sub ab col dd k0 k1 k2 k3 k5 newId)) (hq : Q () ⟨h, g, d, t, os⟩) : wpAny M A (checkBuiltinCall newId ⟨.ref C :: rest, []⟩) Q E ⟨h, g, d, t, os⟩ := by
  have hb : (Value.ref C :: bm).contains (.type B) = true := by rw [List.contains_cons, hT, F.has, Bool.or_true]
  have hs := F.call.noStar
  simp only [checkBuiltinCall, F.kind, F.split, F.row]
  repeat (first | refine wpAny_loadPart_at hC ?_ | (refine wpAny_isSubtype_exc hC ?_; rw [hb]) | refine wpAny_staticBase_exc hC ?_ | refine wpAny_madeBy_exc hC ?_ | simp only [bne_self_eq_false, Bool.false_eq_true, if_false] | wp_step)
  exact hq
theorem mx_new (F : MadeX B newId initId bmB) (hT : ∀ X : String, bm.contains (.type X) = bmB.contains (.type X)) {rest : List Value} (hC : h.get? C = some (excClassObj nm q C N bs bm hdct sn sub ab col dd k0 k1 k2 k3 k5 newId))
    (hq : R (.ok (.ret (.ref (h.objs.size + 1)))) ⟨(h.push (PySem.W.kdv_tup rest)).push (PySem.HandSPX.excO C h.objs.size), g, d, t, os⟩) (hrest : rest.length ≤ sizeLine) : codeAny (model prog w) A (.builtin newId ⟨.ref C :: rest, []⟩) R ⟨h, g, d, t, os⟩ := by
  have hends := F.call.ends
  have b0 : (Value.ref C :: bm).contains (.type B) = true := by rw [List.contains_cons, hT, F.has, Bool.or_true]
  have b1 : (Value.ref C :: bm).contains (.type "AttributeError") = false := by rw [List.contains_cons, hT, F.noA]; rfl
  have b2 : (Value.ref C :: bm).contains (.type "NameError") = false := by rw [List.contains_cons, hT, F.noN]; rfl
  refine codeAny_builtinAt F.call.entry ?_
  unfold Builtin.«BaseException.__new__»
  refine PySem.wpAt_bind ?_
  show PySem.wpAt _ _ _ (stack >>= _) _ _ _
  refine PySem.wpAt_bind (PySem.wpAt_stack fun pp bel => PySem.wpAt_of_wpAny ?_)
  wp_walk
  refine PySem.wpAt_of_wpAny ?_
  rw [F.call.owner]
  repeat (first | with_reducible refine wpAny_madeHere_exc F.canon hC ?_ | with_reducible refine wpAny_loadPart_at hC ?_ | (with_reducible refine wpAny_isSubtype_exc hC ?_; first | rw [b0] | rw [b1] | rw [b2]) | wp_step)
  show R _ _
  rw [Heap.size_push]
  exact hq
theorem mx_type {E : Value → Shared → Prop} (F : MadeX B newId initId bmB) (hT : ∀ X : String, bm.contains (.type X) = bmB.contains (.type X)) {rest : List Value} {fI : Addr} {Q : Fin → Shared → Prop}
    (hC : h.get? C = some (excClassObj nm q C N bs bm hdct sn sub ab col dd k0 k1 k2 k3 k5 newId))
    (hi : PySem.W.Looks (model prog w) h (typeLookup (.ref C) "__init__") (some (.ref fI))) (hb : ∀ self, PySem.W.Looks (model prog w) h (bindSpecial (.ref fI) self) (.ref fI, [self])) (hrest : rest.length ≤ sizeLine)
    (hq : codeAny (model prog w) A (.call (.ref fI) ⟨.ref (h.objs.size + 1) :: rest, []⟩)
      (fun r s' => match r with | .ok (.ret v) => v = .none ∧ Q (.done (.ret (.ref (h.objs.size + 1)))) s' | .ok _ => False | .error e => E e s')
      ⟨(h.push (PySem.W.kdv_tup rest)).push (PySem.HandSPX.excO C h.objs.size), g, d, t, os⟩) :
    wpAny (model prog w) A (Builtin.«type.__call__» ⟨.ref C :: rest, []⟩) Q E ⟨h, g, d, t, os⟩ := by
  repeat (first | with_reducible refine wpAny_loadPart_at hC ?_ | with_reducible refine wpAny_madeBy_exc hC ?_ | wp_step)
  refine codeAny_call_builtin_code (Code.quiet_builtin _ F.call.quiet) (mx_check F hT hC ?_)
  refine mx_new F hT hC ?_ hrest
  show wpAny _ _ _ _ _ _
  have kk : ∀ b o, h.get? b = some o → ((h.push (PySem.W.kdv_tup rest)).push (PySem.HandSPX.excO C h.objs.size)).get? b = some o := fun b o e => Heap.get?_push_of_some _ (Heap.get?_push_of_some _ e)
  have c1 := kk _ _ hC
  have o1 : ((h.push (PySem.W.kdv_tup rest)).push (PySem.HandSPX.excO C h.objs.size)).get? (h.objs.size + 1) = some (PySem.HandSPX.excO C h.objs.size) := by heap_get
  have b3 : (Value.ref C :: bm).contains (.ref C) = true := by simp
  have i1 := hi.keeps kk
  have j1 := (hb (.ref (h.objs.size + 1))).keeps kk
  unfold isInstance
  repeat (first | with_reducible refine wpAny_loadPart_at o1 ?_ | (with_reducible refine wpAny_isSubtype_exc c1 ?_; rw [b3]) | wp_step)
  show wpAny _ _ (typeLookup (.ref C) _) _ _ _
  refine i1.at ?_
  refine wpAny_holding (wpAny_bind (j1.at ?_))
  refine wpAny_bind (wpAny_call (codeAny_mono hq fun r s' z => ?_))
  rcases r with e | (v | _ | _ | _) <;> first | exact z | exact z.elim | skip
  obtain ⟨rfl, z⟩ := z
  first
    | exact wpAny_pure (wpAny_pure z)
    | (wp_walk; exact z)
theorem mx_call (F : MadeX B newId initId bmB) (hT : ∀ X : String, bm.contains (.type X) = bmB.contains (.type X)) {rest : List Value} {fI : Addr}
    (hC : h.get? C = some (excClassObj nm q C N bs bm hdct sn sub ab col dd k0 k1 k2 k3 k5 newId))
    (hi : PySem.W.Looks (model prog w) h (typeLookup (.ref C) "__init__") (some (.ref fI))) (hb : ∀ self, PySem.W.Looks (model prog w) h (bindSpecial (.ref fI) self) (.ref fI, [self])) (hrest : rest.length ≤ sizeLine)
    (hq : codeAny (model prog w) (A.under (.builtin "type.__call__" ⟨.ref C :: rest, []⟩)) (.call (.ref fI) ⟨.ref (h.objs.size + 1) :: rest, []⟩) (PySem.W.InitBack (h.objs.size + 1) R)
      ⟨(h.push (PySem.W.kdv_tup rest)).push (PySem.HandSPX.excO C h.objs.size), g, d, t, os⟩) :
    codeAny (model prog w) A (.call (.ref C) ⟨rest, []⟩) R ⟨h, g, d, t, os⟩ := by
  have f1 := tc_lookup
  have f2 := tc_bind (.ref C)
  have hTy : (⟨h, g, d, t, os⟩ : Shared).TypeIs (.ref C) "type" := ⟨_, hC, rfl⟩
  refine codeAny_of_tree ?_
  show wpAny _ _ (callAny (.ref C) _) _ _ _
  repeat (any_goals (first | assumption | with_reducible refine wpAny_loadPart_at hC ?_ | wp_step))
  refine ⟨rfl, ?_⟩
  refine codeAny_call_builtin_at (Code.quiet_builtin _ (by decide +kernel)) entry_typeCall (wpAny_check_type_call_sub hC (mx_type F hT hC hi hb hrest ?_))
  refine codeAny_mono hq fun r s' z => ?_
  rcases r with e | (v | _ | _ | _) <;> exact z
end
/-- a built-in class over which an own exception may stand: who lends __new__, who keeps the stores -/
def XBase (newId : String) (bm : List Value) : Prop := ∃ B initId B2, MadeX B newId initId bm ∧ StoreFacts B2 bm "object.__setattr__" "object"
theorem XBase.of {B newId initId : String} {bm : List Value} (F : ExcBaseFacts B newId initId bm) (SF : StoreFacts B bm "object.__setattr__" "object") : XBase newId bm := ⟨_, _, _, .of F, SF⟩
theorem store_Key : StoreFacts "KeyError" [.type "KeyError", .type "LookupError", .type "Exception", .type "BaseException", .type "object"] "object.__setattr__" "object" where
  mro := by kernel_rfl
  slot := .of (owner := "object") (n := "__setattr__") (by rw [typeLookup_type, builtinLookup_eq_fast]; kernel_rfl) (by decide +kernel) (by decide +kernel) (by decide +kernel) (by first | exact .inl (by decide +kernel) | exact .inr (by decide +kernel)) (by rw [isSubtype_type]; kernel_rfl)
  entry := PySem.F.store_LookupError.entry
  kind := by decide +kernel
  split := by decide +kernel
  hasOwner := by decide +kernel
  args := fun _ _ _ => by unfold argsOk; kernel_rfl
  passes := fun _ => by kernel_rfl
theorem xb_Key : XBase "LookupError.__new__" [.type "KeyError", .type "LookupError", .type "Exception", .type "BaseException", .type "object"] :=
  ⟨"LookupError", _, "KeyError", ⟨PySem.F.excBase_LookupError.toExcCallFacts, PySem.F.excBase_LookupError.newSplit, PySem.F.excBase_LookupError.newKind, PySem.F.excBase_LookupError.newRow, PySem.F.excBase_LookupError.canon, by decide +kernel, by decide +kernel, by decide +kernel⟩, store_Key⟩
/-- what the written part says of an own exception class at C -/
structure XcC (K : PySem.W.Frag) (C : Addr) (fl : List Str) : Prop where
  bs : ∃ newId bm, XBase newId bm ∧ PySem.W.excInitIn K C bm newId = true ∧ PySem.W.excOver K C bm = true
  sa : PySem.W.findIn K (.ref C) "__setattr__" = some (some (.builtin "object.__setattr__"))
  rd : XfC K C
  no : ∀ f ∈ fl, PySem.W.findIn K (.ref C) f = some none
  ty : PySem.W.typeIn K (.ref C) = some (.type "type")
  kp : PySem.W.keepIn K (.ref C) = true
section
variable {prog : Program} {w : World} {A : Around} {R : Result → Shared → Prop} {hp : Heap} {g : Array GenState} {d : Drawn} {t : Nat} {os : OsState} {K : PySem.W.Frag} {name : Str} {tk : Tok} {v : Value} {x C : Addr} {fv : Array Value} {B : String} {bm : List Value}
/-- the first store lays the dict -/
theorem xosa_new (SF : StoreFacts B bm "object.__setattr__" "object") (X : K.In hp) (hx : hp.get? x = some { cls := .ref C, data := .fields fv }) (ho : PySem.W.excOver K C bm = true) (hd : PySem.W.hasDictIn K C = true) (ha : PySem.W.findIn K (.ref C) name = some none)
    (hq : ∀ h' tk' dx, (∀ b o, b ≠ x → hp.get? b = some o → h'.get? b = some o) → hp.objs.size ≤ dx → dx ≠ x → h'.get? x = some { cls := .ref C, dict := some dx, data := .fields fv } →
      h'.Ns1 dx (fun y => if y = name then some v else none) → R (.ok (.ret .none)) ⟨h', g, d, tk', os⟩) : codeAny (model prog w) A (.call (.builtin "object.__setattr__") ⟨[.ref x, .str name tk, v], []⟩) R ⟨hp, g, d, t, os⟩ := by
  refine PySem.W.osa_openX (s := ⟨hp, g, d, t, os⟩) (ox := { cls := .ref C, data := .fields fv }) (od := none) (r := none) SF X ⟨hx, rfl, rfl, trivial⟩ ho (by unfold PySem.W.takerIn; rw [ha]; rfl) fun b => ?_
  obtain ⟨cd, hc, hh⟩ := PySem.W.any_some hd
  have hcls : PySem.W.Looks (model prog w) hp (classData C) cd := PySem.W.looks_clsIn X hc
  have ne : x ≠ hp.objs.size := Nat.ne_of_lt (Heap.lt_size hx)
  show wpAny _ _ (Builtin.ObjectAttr.storeInOwnDict (.ref x) (.ref C) (.str name tk) name v b) _ _ _
  obtain ⟨nm, bs, mro, ns, qn, hD, sn, sb, ab, col, del⟩ := cd
  dsimp only at hh
  subst hh
  unfold Builtin.ObjectAttr.storeInOwnDict Builtin.ObjectAttr.ownDictForStores
  repeat (first | with_reducible refine HandSPX.store_in_new ?_ ?_ | with_reducible refine wpAny_loadPart_at hx ?_ | with_reducible refine hcls.at ?_ | wp_step)
  · exact ⟨_, #[], _, (Heap.get?_update_ne _ _ _ _ ne.symm).trans (Heap.get?_push_at rfl rfl), rfl, (fun e he => absurd he (by simp)), fun _ => rfl⟩
  · intro h' tk' hn hs
    have hx1 := Heap.get?_push_of_some { cls := .type "dict", data := .dict #[] } hx
    refine hq h' tk' hp.objs.size (fun b o hb hg => ?_) (Nat.le_refl _) ne.symm ?_ hn
    · exact (hs.2 b (Nat.ne_of_lt (Heap.lt_size hg))).trans ((Heap.get?_update_ne _ _ _ _ hb).trans (Heap.get?_push_of_some _ hg))
    · exact (hs.2 x ne).trans (Heap.get?_update_self _ hx1 rfl)
/-- a later store -/
theorem xosa_old {dx : Addr} {m0 : Str → Option Value} {nl : List Str} (SF : StoreFacts B bm "object.__setattr__" "object") (X : K.In hp) (hx : hp.get? x = some { cls := .ref C, dict := some dx, data := .fields fv }) (hns : hp.Ns1 dx m0) (hw : Within m0 nl) (hz : nl.length ≤ 1000)
    (ho : PySem.W.excOver K C bm = true) (hd : PySem.W.hasDictIn K C = true) (ha : PySem.W.findIn K (.ref C) name = some none)
    (hq : ∀ h' tk', (∀ b o, b ≠ dx → hp.get? b = some o → h'.get? b = some o) → h'.Ns1 dx (fun y => if y = name then some v else m0 y) → R (.ok (.ret .none)) ⟨h', g, d, tk', os⟩) : codeAny (model prog w) A (.call (.builtin "object.__setattr__") ⟨[.ref x, .str name tk, v], []⟩) R ⟨hp, g, d, t, os⟩ := by
  obtain ⟨oD, esD, epD, hoD, hdD, _⟩ := hns.count hw
  refine PySem.W.osa_openX (s := ⟨hp, g, d, t, os⟩) (ox := { cls := .ref C, dict := some dx, data := .fields fv }) (od := some oD) (r := none) SF X ⟨hx, rfl, rfl, hoD⟩ ho (by unfold PySem.W.takerIn; rw [ha]; rfl) fun b => ?_
  obtain ⟨cd, hc, hh⟩ := PySem.W.any_some hd
  have hcls : PySem.W.Looks (model prog w) hp (classData C) cd := PySem.W.looks_clsIn X hc
  show wpAny _ _ (Builtin.ObjectAttr.storeInOwnDict (.ref x) (.ref C) (.str name tk) name v b) _ _ _
  obtain ⟨nm, bs, mro, ns, qn, hD, sn, sb, ab, col, del⟩ := cd
  dsimp only at hh
  subst hh
  unfold Builtin.ObjectAttr.storeInOwnDict Builtin.ObjectAttr.ownDictForStores
  repeat (first | with_reducible refine OEX.store_in_old hns hw hz ?_ | with_reducible refine wpAny_loadPart_at hx ?_ | with_reducible refine hcls.at ?_ | wp_step)
  intro h' tk' hn hs
  exact hq h' tk' (fun b o hb hg => (hs.2 b hb).trans hg) hn
end
section
variable {X : Cx} {pins : List (Addr × Obj)} {σ : L2.St} {H : Hp} {s : Shared} {a C dx : Addr} {f : Str} {y : V} {u : Value} {fs : List (Str × V)} {fl : List Str} {Q : Unit → Shared → Prop} {E : Value → Shared → Prop} {A : Around}
theorem xst_new (T : XcC X.K C fl) (I : L2.Inv X pins σ H s) (e : H a = some (exo a C none)) (hf : f ∈ fl) (ry : RelV y u)
    (h : ∀ dx s', H dx = none → dx ≠ a → L2.Inv X pins σ (upd (upd H dx (exd dx [(f, y)])) a (exo a C (some dx))) s' → Q () s') : wpAny (model X.prog X.w) A (setAttr (.ref a) f u) Q E s := by
  obtain ⟨newId, bm, ⟨B, initId, B2, FB, SF⟩, hin, hov⟩ := T.bs
  obtain ⟨t1, ho⟩ := exo_at I.hok e
  obtain ⟨hp, g, d, t, os⟩ := s
  refine PySem.W.set_plain I.kIn (od := none) (ox := { cls := .ref C, dict := none, data := .fields #[.ref t1, .none, .none, .none, .bool false, .none] }) ⟨ho, rfl, rfl, trivial⟩ T.sa ?_
  refine xosa_new SF I.kIn ho hov T.rd.hdC (T.no f hf) fun h' tk' dx k dn dne hx hn => ?_
  have hnd : H dx = none := I.hok.fresh dn
  have old : ∀ {b : Addr} {o : Obj}, hp.get? b = some o → b ≠ dx := fun {b o} q z => absurd (Heap.lt_size q) (by rw [z]; exact Nat.not_lt.mpr dn)
  have nota : ∀ {b : Addr}, H b = none → b ≠ a := fun {b} n z => by
    rw [z, e] at n
    exact nomatch n
  have U : Un X.fs [] H (upd (upd H dx (exd dx [(f, y)])) a (exo a C (some dx))) hp h' := by
    constructor
    · exact fun b o q n _ _ => k b o (nota n) q
    · exact fun b o q n _ _ => ⟨o.slots, k b o (nota n) q⟩
    · intro b o q n _
      rw [upd_ne (nota n), upd_ne (old q)]
      exact n
    · intro b o q _
      by_cases hb : b = a
      · rw [hb]
        exact ⟨_, hx⟩
      · exact ⟨o, k b o hb q⟩
    · intro b xs q
      rw [upd_ne (at_ne e q exo_tup)]
      rw [upd_ne (ne_of_none q hnd)]
      exact q
    · intro b o v q
      rw [upd_ne (at_ne e q exo_frz)]
      rw [upd_ne (ne_of_none q hnd)]
      exact q
    · intro b ps q
      refine ⟨#[], ?_⟩
      rw [upd_ne (at_ne e q exo_tbl), upd_ne (ne_of_none q hnd)]
      rw [q]
      simp
  refine h dx _ hnd dne (I.un (t' := tk') U fun b o q => ?_)
  by_cases hb : b = a
  · rw [hb, upd_same] at q
    rw [hb]
    cases q
    exact exo_ok hx
  rw [upd_ne hb] at q
  by_cases hd : b = dx
  · rw [hd, upd_same] at q
    rw [hd]
    cases q
    exact exd_ok hn (relO_put (fs := []) ry fun _ => trivial)
  rw [upd_ne hd] at q
  refine (I.hok b o q).stay (fun c v hc z => k c v ?_ z) (fun c hc => ?_) (fun c xs hc => ?_)
  · rcases hc with rfl | hc
    · exact hb
    · exact at_ne e hc exo_own
  · rw [upd_ne (at_ne e hc exo_own)]
    rw [upd_ne (ne_of_none hc hnd)]
    exact hc
  · rw [upd_ne (at_ne e hc exo_tup)]
    rw [upd_ne (ne_of_none hc hnd)]
    exact hc
theorem xst_old (T : XcC X.K C fl) (I : L2.Inv X pins σ H s) (e : H a = some (exo a C (some dx))) (ed : H dx = some (exd dx fs)) (hl : fs.length ≤ 900) (hf : f ∈ fl) (ry : RelV y u)
    (h : ∀ s', L2.Inv X pins σ (upd H dx (exd dx ((f, y) :: fs))) s' → Q () s') : wpAny (model X.prog X.w) A (setAttr (.ref a) f u) Q E s := by
  obtain ⟨newId, bm, ⟨B, initId, B2, FB, SF⟩, hin, hov⟩ := T.bs
  obtain ⟨t1, ho⟩ := exo_at I.hok e
  obtain ⟨mA, hns, rel⟩ := exd_at I.hok ed
  have hw := within_of rel
  obtain ⟨oD, _, _, hoD, _, _⟩ := hns.count hw
  obtain ⟨hp, g, d, t, os⟩ := s
  refine PySem.W.set_plain I.kIn (od := some oD) (ox := { cls := .ref C, dict := some dx, data := .fields #[.ref t1, .none, .none, .none, .bool false, .none] }) ⟨ho, rfl, rfl, hoD⟩ T.sa ?_
  refine xosa_old SF I.kIn ho hns hw (by rw [List.length_map]; omega) hov T.rd.hdC (T.no f hf) fun h' tk' k hn => ?_
  have hd : ∃ o, h'.get? dx = some o := by
    obtain ⟨o, _, _, e', _⟩ := hn
    exact ⟨o, e'⟩
  exact h _ (I.write (t' := tk') (x := dx) (e := dx) (o := exd dx ((f, y) :: fs)) (by rw [ed]; exact trivial) (.inl rfl) k hd (exd_ok hn (relO_put ry rel)))
end
/-- self.f = e on an exception that is being made -/
def tXst (K : PySem.W.Frag) (f : Str) (to te : TE) : TS := fun D σ H => te σ H fun y H1 => to σ H1 fun x H2 => ∃ a C fl, x = .ref a ∧ XcC K C fl ∧ f ∈ fl ∧
  ((H2 a = some (exo a C none) ∧ ∀ dx, H2 dx = none → dx ≠ a → D.nx σ (upd (upd H2 dx (exd dx [(f, y)])) a (exo a C (some dx)))) ∨
    ∃ dx fs, H2 a = some (exo a C (some dx)) ∧ H2 dx = some (exd dx fs) ∧ fs.length ≤ 900 ∧ D.nx σ (upd H2 dx (exd dx ((f, y) :: fs))))
theorem ps_xst {X : Cx} {o e : Expr} {to te : TE} {f : Str} {p pos : Pos} (ho : PE X o to) (he : PE X e te) (hs : swapsWith e (some (.Attribute o f p)) pos.line X.env = pure false := by rfl) : PS X (.Assign [.Attribute o f p] e pos) (tXst X.K f to te) := by
  refine ⟨fun pins s σ H D I h => plainObj_wpAny_Assign_Attribute (thn (he.run pins s σ H _ I h) fun v s1 ⟨y, H1, I1, r1, q1⟩ => thn (ho.run pins s1 σ H1 _ I1 q1) fun u s2 ⟨x, H2, I2, r2, a, C, fl, ex, T, hf, q⟩ => ?_) hs⟩
  subst ex
  cases r2
  rcases q with ⟨ea, q⟩ | ⟨dx, fs, ea, ed, hl, q⟩
  · exact xst_new T I2 ea hf r1 fun dx s' n ne J => ⟨_, _, J, q dx n ne⟩
  · exact xst_old T I2 ea ed hl hf r1 fun s' J => ⟨_, _, J, q⟩
/-- the promise of such an __init__: the parameters are stored, in order -/
def spX (K : PySem.W.Frag) (fl : List Str) : Sp := fun vs H Q _ => ∃ a C ys, vs = .ref a :: ys ∧ ys.length = fl.length ∧ XcC K C fl ∧ H a = some (exo a C none) ∧
  ∀ dx H', H dx = none → dx ≠ a → H' a = some (exo a C (some dx)) → H' dx = some (exd dx (fl.zip ys).reverse) → (∀ b, b ≠ a → b ≠ dx → H' b = H b) → Q .non H'
/-- the class x, its fields fl stored by its __init__ -/
def XMk (P : Program) (w : World) (K : PySem.W.Frag) (mg : Str → Option Value) (base : Heap) (k : Nat) (x : Str) (fl : List Str) : Prop :=
  ∃ C f fd ps, mg x = some (.ref C) ∧ XcC K C fl ∧ PySem.W.findIn K (.ref C) "__init__" = some (some (.ref f)) ∧ PySem.W.typeIn K (.ref f) = some (.type "function") ∧ Binds K fd ps [] ∧ FnG P w K mg base k f fd ps (spX K fl)
theorem XMk.mono {P : Program} {w : World} {K : PySem.W.Frag} {mg : Str → Option Value} {base : Heap} {j k : Nat} {x : Str} {fl : List Str} (h : XMk P w K mg base j x fl) (hk : j ≤ k) : XMk P w K mg base k x fl := by
  obtain ⟨C, f, fd, ps, h1, h2, h3, h4, h5, h6⟩ := h
  exact ⟨C, f, fd, ps, h1, h2, h3, h4, h5, h6.mono hk⟩
structure TopX (K : PySem.W.Frag) (mg : Str → Option Value) (x qual : Str) (st : Stmt) (ps fl : List Str) : Prop where
  ex : ∃ C f fd, mg x = some (.ref C) ∧ XcC K C fl ∧ PySem.W.findIn K (.ref C) "__init__" = some (some (.ref f)) ∧ PySem.W.typeIn K (.ref f) = some (.type "function") ∧ Fun K "__init__" qual st f fd ∧ Binds K fd ps []
section
variable {P : Program} {w : World} {K : PySem.W.Frag} {mg : Str → Option Value} {base : Heap}
theorem spX_len {fl : List Str} {vs : List V} {H : Hp} {Q : VK} {E : XK} (h : spX K fl vs H Q E) : vs.length = fl.length + 1 := by
  obtain ⟨a, C, ys, rfl, hl, _⟩ := h
  rw [List.length_cons, hl]
theorem xinit1 {x qual f1 s0 p1 : Str} {st : Stmt} {k : Nat} {q1 q2 q3 q4 : Pos} (T : TopX K mg x qual st [s0, p1] [f1]) (S : FnScope [s0, p1] [s0, p1] (defScope st)) (hb : defBody st = [.Assign [.Attribute (.Name s0 q1) f1 q2] (.Name p1 q3) q4])
    (d0 : (s0 == ("__debug__" : Str)) = false := by decide) (d1 : (p1 == ("__debug__" : Str)) = false := by decide) (c0 : (s0 == ("__classdict__" : Str)) = false := by decide) (c1 : (p1 == ("__classdict__" : Str)) = false := by decide)
    (v0 : Vis (defScope st) s0 := by exact .inl rfl) (v1 : Vis (defScope st) p1 := by exact .inl rfl) : XMk P w K mg base (k + 1) x [f1] := by
  obtain ⟨C, f, fd, hm, hc, hi, ht, F, b⟩ := T.ex
  refine ⟨C, f, fd, _, hm, hc, hi, ht, b, ?_⟩
  obtain ⟨oc, od, kV, doc, pm, an, cdv, ct, osl, rfl, lk, hcd⟩ := F.ex
  refine fnG_of lk hcd S (fun vs H Q E h => (spX_len h).trans rfl) fun A outer s H vs Q E hr hsp => ?_
  rw [hb]
  refine ⟨_, pss_one (ps_xst (pe_var (i := 0) rfl v0 d0 c0) (pe_var (i := 1) rfl v1 d1 c1) (by rfl)), ?_⟩
  obtain ⟨a, C', ys, rfl, hl, T', ea, q⟩ := hsp
  match ys, hl with
  | [y], _ =>
    refine ⟨y, rfl, .ref a, rfl, a, C', [f1], rfl, T', by simp, .inl ⟨ea, fun dx n ne => ?_⟩⟩
    refine q dx _ n ne upd_same ?_ fun b h1 h2 => ?_
    · rw [upd_ne ne, upd_same]
      rfl
    · rw [upd_ne h1, upd_ne h2]
end
/-! ### raise C(e, ..) -/
def tXmk (C : Addr) (fl : List Str) (ta : TA) : L2.St → Hp → XK → Prop := fun σ H Q => ta σ H fun vs H1 => vs.length = fl.length ∧ ∀ d, H1 d = none → Q (.ref C) (some d) (upd H1 d (.xd (fl.zip vs).reverse))
theorem pmk_xc {X : Cx} {k : Nat} {x : Str} {C : Addr} {fl : List Str} {e : Expr} {es : List Expr} {ta : TA} {p pos : Pos} (M : XMk X.prog X.w X.K X.mg X.base k x fl) (mc : X.mg x = some (.ref C)) (hr : Rm (k + 1) X.A) (hg : Gl X x) (ha : PA X (e :: es) ta) (hfl : fl.length ≤ 100)
    (hdb : (x == ("__debug__" : Str)) = false := by decide) (hst : starEach (e :: es) X.env = (false, eval e X.env) :: starEach es X.env := by rfl) (hpl : (backTo pos (starEach es X.env)).any (·.1) = false := by rfl) : L2N.PMk X (.Call (.Name x p) (e :: es) [] pos) (tXmk C fl ta) := by
  intro pins s σ H Q I h
  obtain ⟨C', f, fd, ps, mc', T, hi, ht, hb, FG⟩ := M
  rw [mc] at mc'
  cases mc'
  obtain ⟨newId, bm, ⟨B, initId, B2, FB, SF⟩, hin, hov⟩ := T.bs
  refine wpAny_Call_Name_kw (ld_glob I hg mc ?_ hdb)
  refine PySem.W.callWith_K (h₀ := X.base) I.ok.mod.kin T.kp (thn (ha.run pos pins s σ H _ I h) fun us s1 ⟨vs, H1, I1, r1, hl, q1⟩ => ⟨I1.kIn, ?_⟩) hst hpl
  obtain ⟨hp, g, dr, tk, os⟩ := s1
  have big : hp.objs.size ≤ hp.objs.size + 1 := Nat.le_succ _
  have fr : H1 (hp.objs.size + 1) = none := I1.hok.fresh big
  have kk : ∀ b o, hp.get? b = some o → ((hp.push (PySem.W.kdv_tup us)).push (PySem.HandSPX.excO C hp.objs.size)).get? b = some o := fun b o e => Heap.get?_push_of_some _ (Heap.get?_push_of_some _ e)
  have hget : ((hp.push (PySem.W.kdv_tup us)).push (PySem.HandSPX.excO C hp.objs.size)).get? (hp.objs.size + 1) = some (PySem.HandSPX.excO C hp.objs.size) := by heap_get
  have I2 := I1.laid (t' := tk) (a := hp.objs.size + 1) (o := exo (hp.objs.size + 1) C none) kk big (exo_ok hget)
  have rr : Vals (V.ref (hp.objs.size + 1) :: vs) (Value.ref (hp.objs.size + 1) :: us) := .cons rfl r1
  have hus : us.length = fl.length := by rw [← hl]; exact (Paired.length r1).symm
  have huz : us.length ≤ sizeLine := by
    rw [hus, sizeLine_eq]
    omega
  obtain ⟨nm, N, qn, bs, bm', hD, sn, sub, ab, col, dd, k0, k1, k2, k3, k5, hC, hcon⟩ := PySem.W.excInit_of I1.kIn hin
  have hsp : spX X.K fl (V.ref (hp.objs.size + 1) :: vs) (upd H1 (hp.objs.size + 1) (exo (hp.objs.size + 1) C none)) (fun v H2 => v = .non ∧ ∃ (d : Addr) (fs : List (Str × V)), H2 (hp.objs.size + 1) = some (exo (hp.objs.size + 1) C (some d)) ∧ H2 d = some (exd d fs) ∧ H1 d = none ∧ Q (.ref C) (some d) (upd (del H2 (hp.objs.size + 1)) d (.xd fs))) (fun _ _ _ => False) := by
    refine ⟨_, C, vs, rfl, hl, T, upd_same, fun dx H' n ne ea ed hrest => ⟨rfl, dx, _, ea, ed, ?_, ?_⟩⟩
    · rw [upd_ne ne] at n
      exact n
    · rw [upd_ne ne] at n
      have eq : upd (del H' (hp.objs.size + 1)) dx (.xd (fl.zip vs).reverse) = upd H1 dx (.xd (fl.zip vs).reverse) := by
        funext b
        by_cases hb : b = dx
        · rw [hb, upd_same, upd_same]
        · rw [upd_ne hb, upd_ne hb]
          by_cases hb2 : b = hp.objs.size + 1
          · rw [hb2, del_same, fr]
          · rw [del_ne hb2, hrest b hb2 hb, upd_ne hb2]
      rw [eq]
      exact q1 dx n
  have hlen := FG.len _ _ _ _ hsp
  have hb' := hb { heap := (hp.push (PySem.W.kdv_tup us)).push (PySem.HandSPX.excO C hp.objs.size), gens := g, drawn := dr, toks := tk, os := os } (Value.ref (hp.objs.size + 1) :: us) I2.kIn (by rw [List.append_nil, ← rr.length]; exact hlen)
  rw [List.append_nil] at hb'
  refine wpAny_call (mx_call FB hcon hC (PySem.W.looks_findIn I1.kIn hi) (fun self => PySem.W.bind_fn I1.kIn self ht) huz
    (codeAny_mono (FG.run _ X.stack _ _ ⟨Value.ref (hp.objs.size + 1) :: us, []⟩ (Value.ref (hp.objs.size + 1) :: us) _ _ _ (hr.make C us []) (I2.env0.make C us []) hb' rr hsp) fun r s' hq => ?_))
  cases r with
  | error er =>
    obtain ⟨_, _, _, _, _, _, _, _, _, _, _, _, z⟩ := hq
    exact z.elim
  | ok fw =>
    cases fw with
    | ret u =>
      obtain ⟨v, H2, os2, bare2, un2, hok2, rv, ev, d, fs, ea, ed, hd1, q2⟩ := hq
      subst ev
      obtain ⟨h2, g2, d2, t2, os'⟩ := s'
      obtain ⟨t0, G, J, kG, ge, hoe, na⟩ := mk_end0 (d2 := d2) (t2 := t2) I1 big kk un2 hok2 os2 bare2 ea ed hd1
      exact ⟨rv, _, _, _, ⟨G, g2, d2, t2, os'⟩, _, .ref C, some d, rfl, J, kG, ge, hoe, ⟨rfl, rfl, fun vs z => by cases z; rfl⟩, rfl, rfl, na, rfl, bare2, raises_own T.rd.exC T.ty, q2⟩
    | next => exact False.elim hq
    | brk => exact False.elim hq
    | cont => exact False.elim hq
def sRaise (x : Str) (fl : List Str) (fa : En → Store → Res (List D)) : En → Store → ResS := fun env st => (fa env st).go env fun ds st => if ds.length = fl.length then .er ⟨x, (fl.zip ds).reverse⟩ env st else .stuck
section
variable {X : Cx} {W : Wi}
theorem RepF.ofZip {K : PySem.W.Frag} {mg : Str → Option Value} {g : G} : ∀ {fl : List Str} {ds : List D} {vs : List V}, RepL K mg g ds vs → RepF K mg g (fl.zip ds) (fl.zip vs)
  | [], _, _, _ => .nil
  | f :: fl, _, _, .nil => .nil
  | f :: fl, _, _, .cons r t => .cons r (RepF.ofZip t)
theorem RepF.app {K : PySem.W.Frag} {mg : Str → Option Value} {g : G} : ∀ {as bs : List (Str × D)} {vs ws : List (Str × V)}, RepF K mg g as vs → RepF K mg g bs ws → RepF K mg g (as ++ bs) (vs ++ ws)
  | _, _, _, _, .nil, s => s
  | _, _, _, _, .cons r t, s => .cons r (RepF.app t s)
theorem RepF.rev {K : PySem.W.Frag} {mg : Str → Option Value} {g : G} : ∀ {as : List (Str × D)} {vs : List (Str × V)}, RepF K mg g as vs → RepF K mg g as.reverse vs.reverse
  | _, _, .nil => .nil
  | _, _, .cons r t => by
    rw [List.reverse_cons, List.reverse_cons]
    exact (RepF.rev t).app (.cons r .nil)
theorem st_raise {k j : Nat} {x : Str} {fl : List Str} {e : Expr} {es : List Expr} {fa : En → Store → Res (List D)} {p pos pos2 : Pos} (M : XMk X.prog X.w X.K X.mg X.base j x fl) (hr : Rm k X.A) (hj : j + 1 ≤ k) (hc : X.calm = true) (tk : L2N.Takes X (wOf X.K X.mg W)) (hg : Gl X x) (ha : AE X W (e :: es) fa)
    (hfl : fl.length ≤ 100 := by decide) (hdb : (x == ("__debug__" : Str)) = false := by decide) (hst : starEach (e :: es) X.env = (false, eval e X.env) :: starEach es X.env := by rfl) (hpl : (backTo pos (starEach es X.env)).any (·.1) = false := by rfl) :
    ST X W (.Raise (some (.Call (.Name x p) (e :: es) [] pos)) none pos2) (sRaise x fl fa) := by
  obtain ⟨C, f, fd, ps, mc, T, rest⟩ := id M
  refine ⟨fun pins s σ H D I h => ?_⟩
  refine (L2N.ps_raise hc tk (pmk_xc M mc (hr.mono hj) hg ha hfl hdb hst hpl)).run pins s σ H D I ?_
  obtain ⟨g, env, st, os, hv, ho, hS, h⟩ := h
  refine ⟨g, env, st, os, hv, ho, hS, (PostSt.go hv ho h).imp fun vs H1 q => ?_⟩
  obtain ⟨g1, ds, st1, s1, r, S1, e1, o1, h1⟩ := q
  split at h1
  · next hl =>
    refine ⟨by rw [← r.length, hl], fun d n => ?_⟩
    obtain ⟨S2, s2⟩ := S1.newF (o := .xd (fl.zip vs).reverse) n
    refine ⟨⟨x, (fl.zip ds).reverse⟩, st1, _, S2, ⟨mc, C, d, _, rfl, rfl, upd_same, ((RepF.ofZip r).rev).ext s2.ext⟩, ?_⟩
    exact h1 σ _ _ os (s2.frame os) (e1.step' o1 s2) (o1.step s2) S2
  · exact (h1 : False).elim
end
end EV
set_option Elab.async false
set_option linter.all false
set_option autoImplicit false
set_option maxRecDepth 100000
set_option maxHeartbeats 1000000
/-! try: .. except C as e: .. -/
namespace EV
open PySem PySem.Spec PyProof.Rows L2
/-- the suite's end; an error of it is not told -/
def noEr : ResS → ResS
  | .er _ _ _ => .stuck
  | r => r
def unE (i : Nat) : ResS → ResS
  | .nx env st => .nx (env.set i .un) st
  | .br env st => .br (env.set i .un) st
  | .ct env st => .ct (env.set i .un) st
  | .rt d st => .rt d st
  | _ => .stuck
structure Cl where
  cs : List Str
  nm : Option Nat
  bd : En → Store → ResS
def handle : List Cl → Er → En → Store → ResS
  | [], e, env, st => .er e env st
  | c :: r, e, env, st => if e.cls ∈ c.cs then (match c.nm with
    | none => noEr (c.bd env st)
    | some i => unE i (c.bd (env.set i (.vl (.exc e.cls e.fs))) st)) else handle r e env st
def sTry (tb : List Str) (fb : En → Store → ResS) (hs : List Cl) : En → Store → ResS := fun env st => match fb env st with
  | .er e env' st' => if e.cls ∈ tb then handle hs e env' st' else .stuck
  | r => r
/-- which of the classes tb is one of cs -/
def ExTab (K : PySem.W.Frag) (mg : Str → Option Value) (tb : List Str) (C' : Str) : Prop := ∃ c', mg C' = some (.ref c') ∧ ∀ C ∈ tb, ∃ c, mg C = some (.ref c) ∧ PySem.W.exmOne K (.ref c) (.ref c') = some (decide (C = C'))
/-- code that runs while an exception is handled: it is known from the entry, its context is None -/
def HotB (X : Cx) : Prop := ∃ (a : Addr) (o : Obj) (u : HO) (vs : Array Value), X.A.handled = some (.ref a) ∧ X.H_0 a = some (.frz o u) ∧ o.data = .fields vs ∧ vs[2]? = some .none
theorem HotB.now {X : Cx} {pins : List (Addr × Obj)} {σ : L2.St} {H : Hp} {s : Shared} (h : HotB X) (I : L2.Inv X pins σ H s) : ∃ (a : Addr) (o : Obj) (u : HO) (vs : Array Value), X.A.handled = some (.ref a) ∧ H a = some (.frz o u) ∧ o.data = .fields vs ∧ vs[2]? = some .none := by
  obtain ⟨a, o, u, vs, h1, h2, h3, h4⟩ := h
  exact ⟨a, o, u, vs, h1, I.base.frzs a o u h2, h3, h4⟩
theorem HotB.at {X : Cx} {pins : List (Addr × Obj)} {σ : L2.St} {H : Hp} {s : Shared} (h : HotB X) (I : L2.Inv X pins σ H s) : ∃ x1, HotX.HotAt X.A x1 s.heap := by
  obtain ⟨a, o, u, vs, h1, h2, h3, h4⟩ := h.now I
  exact ⟨a, h1, o, vs, (I.hok a _ h2).1, h3, h4⟩
/-- a suite's context: the caught exception, as it stands, is known -/
abbrev suiteH (X : Cx) (a : Addr) (o : HO) (pn : List (Addr × Obj)) : Cx := { X.suite a pn with H_0 := upd X.H_0 a o }
theorem hot_suite {X : Cx} {a c dd : Addr} {oe : Obj} {vs : Array Value} {pn : List (Addr × Obj)} (hf : oe.data = .fields vs) (hn : vs[2]? = some .none) : HotB (suiteH X a (xcO oe c dd) pn) := ⟨a, oe, _, vs, rfl, upd_same, hf, hn⟩
/-- nothing of the entry lies at a -/
structure NoEnt (X : Cx) (a : Addr) : Prop where
  hp : X.s_0.heap.get? a = none
  tup : ∀ xs, X.H_0 a ≠ some (.tup xs)
  frz : ∀ o u, X.H_0 a ≠ some (.frz o u)
  tbl : ∀ ps, X.H_0 a ≠ some (.tbl ps)
section
variable {X : Cx} {pins : List (Addr × Obj)} {σ : L2.St} {H : Hp} {s : Shared} {a c dd : Addr} {oe : Obj} {vs : Array Value}
theorem xcO_ok {P : Program} {w : World} {H : Hp} {h : Heap} (he : h.get? a = some oe) (hc : oe.cls = .ref c) (hd : oe.dict = some dd) (hf : oe.data = .fields vs) (hn : vs[2]? = some .none) : ObjOk P w H h a (xcO oe c dd) :=
  ⟨he, ⟨hc, hd, vs, hf, hn⟩, ⟨_, he⟩, fun _ _ z _ => z⟩
theorem NoEnt.of (J : L2.Inv X pins σ H s) (na : H a = none) (n0 : X.s_0.heap.get? a = none) : NoEnt X a := by
  refine ⟨n0, fun xs z => ?_, fun o u z => ?_, fun ps z => ?_⟩
  · rw [J.base.tups a xs z] at na
    cases na
  · rw [J.base.frzs a o u z] at na
    cases na
  · obtain ⟨m, q⟩ := J.base.tbls a ps z
    rw [q] at na
    cases na
/-- the caught exception is tracked -/
theorem Inv.caught (J : L2.Inv X pins σ H s) (hex : X.ex = []) (he : s.heap.get? a = some oe) (hc : oe.cls = .ref c) (hd : oe.dict = some dd) (hf : oe.data = .fields vs) (hn : vs[2]? = some .none) (na : H a = none) (nL : a ≠ X.env.locals) (nF : a ∉ X.fs) (n0 : NoEnt X a) (np : ∀ p ∈ X.pn ++ pins, p.1 ≠ a) :
    L2.Inv (suiteH X a (xcO oe c dd) (X.pn ++ pins)) [] σ (upd H a (xcO oe c dd)) s := by
  have ne : ∀ {b : Addr} {o : HO}, H b = some o → b ≠ a := fun {b o} q z => by
    rw [z, na] at q
    exact nomatch q
  have n1 : ∀ {b : Addr} {o : Obj}, X.s_0.heap.get? b = some o → b ≠ a := fun {b o} q z => by
    rw [z, n0.hp] at q
    exact nomatch q
  have h0 : ∀ {b : Addr}, b ≠ a → upd X.H_0 a (xcO oe c dd) b = X.H_0 b := fun hb => upd_ne hb
  have ok := J.ok.suite a (X.pn ++ pins)
  have okH : (suiteH X a (xcO oe c dd) (X.pn ++ pins)).Ok := { ok with
    bs := fun b o e => ⟨(J.ok.bs b o e).1, (h0 (n1 (J.ok.bs b o e).1)).trans (J.ok.bs b o e).2⟩
    frf := fun b hb => (h0 (fun z => nF (z ▸ hb))).trans (J.ok.frf b hb) }
  refine ⟨okH, J.os, J.bare, ⟨fun b o q n => J.base.keep b o q ((h0 (n1 q)).symm.trans n), fun b o q n => J.base.slot b o q ((h0 (n1 q)).symm.trans n), fun b o q n hx => ?_, J.base.there, fun b xs q => ?_, fun b o u q => ?_, fun b ps q => ?_⟩, J.loc, J.cell, ?_, fun y c' e => ?_, fun p hp => ?_, fun b o q => ?_, J.len⟩
  · rw [upd_ne (n1 q)]
    exact J.base.free b o q ((h0 (n1 q)).symm.trans n) hx
  · by_cases hb : b = a
    · rw [hb] at q
      have q' : upd X.H_0 a (xcO oe c dd) a = some (.tup xs) := q
      rw [upd_same] at q'
      exact nomatch q'
    · have z := J.base.tups b xs ((h0 hb).symm.trans q)
      rw [upd_ne hb]
      exact z
  · by_cases hb : b = a
    · rw [hb] at q ⊢
      have q' : upd X.H_0 a (xcO oe c dd) a = some (.frz o u) := q
      rw [upd_same] at q' ⊢
      exact q'
    · have z := J.base.frzs b o u ((h0 hb).symm.trans q)
      rw [upd_ne hb]
      exact z
  · by_cases hb : b = a
    · rw [hb] at q
      have q' : upd X.H_0 a (xcO oe c dd) a = some (.tbl ps) := q
      rw [upd_same] at q'
      exact nomatch q'
    · obtain ⟨m, z⟩ := J.base.tbls b ps ((h0 hb).symm.trans q)
      exact ⟨m, by rw [upd_ne hb]; exact z⟩
  · rw [upd_ne (Ne.symm nL)]
    exact J.free
  · rw [upd_ne]
    · exact J.freeC y c' e
    · intro z
      obtain ⟨v, hv⟩ := J.cell y c' e
      rw [z] at hv
      obtain ⟨o, ho, hdat⟩ := hv
      rw [he] at ho
      cases ho
      rw [hf] at hdat
      first | exact nomatch hdat | (cases hdat) | (simp at hdat)
  · have hp' : p ∈ X.pn ++ pins := by rw [List.append_nil] at hp; exact hp
    obtain ⟨h1, h2, h3⟩ := J.pin p hp'
    refine ⟨h1, ?_, h3⟩
    rw [upd_ne (np p hp')]
    exact h2
  · by_cases hb : b = a
    · rw [hb, upd_same] at q
      rw [hb]
      cases q
      exact xcO_ok he hc hd hf hn
    · rw [upd_ne hb] at q
      refine (J.hok b o q).stay (fun c v _ z => z) (fun c hc => ?_) (fun c xs hc => ?_)
      · rw [upd_ne (ne hc)]
        exact hc
      · rw [upd_ne (ne hc)]
        exact hc
theorem Inv.uncaught {pn' : List (Addr × Obj)} {ho : HO} (I : L2.Inv (suiteH X a ho (X.pn ++ pins)) pn' σ H s) (ok : X.Ok) (n0 : NoEnt X a) : L2.Inv X pins σ H s := by
  have h0 : ∀ {b : Addr}, b ≠ a → upd X.H_0 a ho b = X.H_0 b := fun hb => upd_ne hb
  have n1 : ∀ {b : Addr} {o : Obj}, X.s_0.heap.get? b = some o → b ≠ a := fun {b o} q z => by
    rw [z, n0.hp] at q
    exact nomatch q
  refine ⟨ok, I.os, I.bare, ⟨fun b o q n => I.base.keep b o q ((h0 (n1 q)).trans n), fun b o q n => I.base.slot b o q ((h0 (n1 q)).trans n), fun b o q n => I.base.free b o q ((h0 (n1 q)).trans n), I.base.there, fun b xs q => ?_, fun b o u q => ?_, fun b ps q => ?_⟩, I.loc, I.cell, I.free, I.freeC, fun p hp => I.pin p (List.mem_append_left _ hp), I.hok, I.len⟩
  · exact I.base.tups b xs ((h0 fun z => n0.tup xs (z ▸ q)).trans q)
  · exact I.base.frzs b o u ((h0 fun z => n0.frz o u (z ▸ q)).trans q)
  · exact I.base.tbls b ps ((h0 fun z => n0.tbl ps (z ▸ q)).trans q)
end
/-- one clause -/
inductive ClsOk (X : Cx) : List ExceptHandler → List Cl → Prop
  | nil : ClsOk X [] []
  | one {x : Str} {b₀ : Stmt} {suite : List Stmt} {np pos' : Pos} {hds : List ExceptHandler} {l : List Cl} {f : En → Store → ResS} (hg : Gl X x) (hdb : (x == ("__debug__" : Str)) = false)
      (hsu : ∀ (a : Addr) (o : HO) (pn : List (Addr × Obj)), HotB (suiteH X a o pn) → STs (suiteH X a o pn) W0 (b₀ :: suite) f) (r : ClsOk X hds l) : ClsOk X (.ExceptHandler (some (.Name x np)) none (b₀ :: suite) pos' :: hds) (⟨[x], none, f⟩ :: l)
  | oneAs {x n : Str} {i : Nat} {b₀ : Stmt} {suite : List Stmt} {np pos' : Pos} {hds : List ExceptHandler} {l : List Cl} {f : En → Store → ResS} (hg : Gl X x) (hdb : (x == ("__debug__" : Str)) = false) (hi : X.N[i]? = some n) (hln : X.env.kindOf n = some .local)
      (hsu : ∀ (a : Addr) (o : HO) (pn : List (Addr × Obj)), HotB (suiteH X a o pn) → STs (suiteH X a o pn) W0 (b₀ :: suite) f) (r : ClsOk X hds l) : ClsOk X (.ExceptHandler (some (.Name x np)) (some n) (b₀ :: suite) pos' :: hds) (⟨[x], some i, f⟩ :: l)
section
variable {X : Cx} {W : Wi} {body : List Stmt} {h₀ : ExceptHandler} {hds : List ExceptHandler} {l : List Cl} {pos : Pos} {fb : En → Store → ResS} {tb : List Str}
theorem PostSt.noEr {K : PySem.W.Frag} {mg : Str → Option Value} {g : G} {H : Hp} {os : List Addr} {D : Ends} {r : ResS} (h : PostSt K mg W g H os D (EV.noEr r)) : PostSt K mg W0 g H os D r := by
  cases r with
  | er e env st => exact h.elim
  | _ => exact h
theorem PostSt.unE {K : PySem.W.Frag} {mg : Str → Option Value} {g : G} {H : Hp} {os : List Addr} {D : Ends} {i : Nat} {r : ResS} (h : PostSt K mg W g H os D (EV.unE i r)) :
    PostSt K mg W0 g H os { nx := fun σ' H' => D.nx (σ'.set i none) H', rt := D.rt, bk := fun σ' H' => D.bk (σ'.set i none) H', ct := fun σ' H' => D.ct (σ'.set i none) H' } r := by
  have key : ∀ {env : En} {σ' : L2.St} {g' : G} {H' : Hp} {os' : List Addr}, EnvOk K mg g' H' env σ' os' → OsOk g' H' os' → ∃ os2, EnvOk K mg g' H' (env.set i .un) (σ'.set i none) os2 ∧ OsOk g' H' os2 ∧ ∀ a ∈ os2, a ∈ os' := fun {env σ' g' H' os'} e1 o1 => by
    obtain ⟨os2, q1, q2, q3⟩ := EnvOk.set (SlotOk.un (K := K) (mg := mg) (g := g') (H := H') none) i e1
    exact ⟨os2, q1, o1.sub (fun a ha => by simpa using q2 a ha) (q3 (by simpa using o1.nd)), fun a ha => by simpa using q2 a ha⟩
  cases r with
  | nx env st =>
    intro σ' g' H' os' s1 e1 o1 S1
    obtain ⟨os2, q1, q2, q3⟩ := key e1 o1
    exact h _ g' H' os2 (s1.sub q3) q1 q2 S1
  | br env st =>
    intro σ' g' H' os' s1 e1 o1 S1
    obtain ⟨os2, q1, q2, q3⟩ := key e1 o1
    exact h _ g' H' os2 (s1.sub q3) q1 q2 S1
  | ct env st =>
    intro σ' g' H' os' s1 e1 o1 S1
    obtain ⟨os2, q1, q2, q3⟩ := key e1 o1
    exact h _ g' H' os2 (s1.sub q3) q1 q2 S1
  | rt d st => exact h
  | er e env st => exact h.elim
  | stuck => exact h.elim
theorem st_try (hs : X.stack = X.env :: X.outer) (hf : X.env.frame = some X.env.locals) (hex : X.ex = []) (hN : X.N.Nodup) (tk : L2N.Takes X (wOf X.K X.mg W))
    (hb : ∀ (W' : Wi) (pn : List (Addr × Obj)) (xe : Value → Shared → Prop), L2N.Takes (X.tr pn xe) (wOf X.K X.mg W') → PassesOwn (model X.prog X.w) X.A X.env xe → STs (X.tr pn xe) W' body fb)
    (hh : ClsOk X (h₀ :: hds) l) (ht : ∀ c ∈ l, ∀ x ∈ c.cs, ExTab X.K X.mg tb x) : ST X W (.Try body (h₀ :: hds) [] [] pos) (sTry tb fb l) := by
  refine ⟨fun pins s σ H D I h => ?_⟩
  have ok := I.ok
  have hfr : X.A.frames = some (X.env :: X.outer) := by rw [ok.frames, hs]
  refine wpAny_Try_except ?_
  have hbody := hb (fun e st' g' H' σ' => ∃ env' os', EnvOk X.K X.mg g' H' env' σ' os' ∧ OsOk g' H' os' ∧ e.cls ∈ tb ∧ PostSt X.K X.mg W g' H' os' D (handle l e env' st')) (X.pn ++ pins)
    (fun e s₁ => wpAny (model X.prog X.w) X.A (noteFrame e X.env) (fun _ s₂ => wpAny (model X.prog X.w) X.A (setFlight e none) (fun _ s₃ => wpAny (model X.prog X.w) X.A (handleBy e X.env (h₀ :: hds)) (SP X pins D) X.xe s₃) X.xe s₂) X.xe s₁)
  refine wpAny_mono ((hbody (fun u s' xx => ?_) PassesOwn.looking).run [] s σ H D (I.toTry _) ?_) (fun f s1 hsp => ?_) (fun e s1 he => he)
  · -- an error of the body
    obtain ⟨a, B, sI, pins', σ', H', cls, d, rfl, J', nb, up, sky, na, os, ag, e, st', g', S', eo, env', os', e1, o1, hm, hp⟩ := xx
    have J : L2.Inv X pins σ' H' sI := J'.ofTry ok
    have sky' : Sky B (X.env :: X.outer) a (L2N.Zn cls d) X.env.locals s'.heap := by rw [← hs]; exact sky
    obtain ⟨mc, c, dd, zs, rfl, rfl, kd, rf⟩ := eo
    refine L2N.Sky.land L2N.Zn.steady hfr hf sky' fun h3 fl3 up3 => ?_
    have J3 : L2.Inv X pins σ' H' { s' with heap := h3 } := J.landed nb fl3.1 (up.trans up3) os ag
    obtain ⟨oe3, vs3, he3, hz3, hd3⟩ := fl3.there
    have notFr : a ∉ frs (X.env :: X.outer) := fun hm => by
      obtain ⟨_, o', e', hnf⟩ := fl3.2.2.1.mem hm
      rw [he3] at e'
      cases e'
      exact hnf _ hd3
    have nL : a ≠ X.env.locals := fun z => notFr (List.mem_filterMap.mpr ⟨X.env, List.mem_cons_self, by rw [hf, z]⟩)
    have nI : sI.heap.get? a = none := by
      cases q : sI.heap.get? a with
      | none => rfl
      | some o =>
        have z := nb a o q (by rw [show (X.tr (X.pn ++ pins) _).stack = X.env :: X.outer from hs]; exact notFr)
        rw [fl3.2.1] at z
        exact nomatch z
    have n0 : X.s_0.heap.get? a = none := by
      cases q : X.s_0.heap.get? a with
      | none => rfl
      | some o =>
        obtain ⟨o', z⟩ := J.base.there a o q (by rw [hex]; simp)
        rw [nI] at z
        exact nomatch z
    have np : ∀ p ∈ X.pn ++ pins, p.1 ≠ a := fun p hp z => by
      have q := (J.pin p hp).1
      rw [z, nI] at q
      exact nomatch q
    have nF : a ∉ X.fs := fun hm => by
      obtain ⟨e, he, q⟩ := List.mem_filterMap.mp hm
      exact notFr (List.mem_filterMap.mpr ⟨e, List.mem_cons_of_mem _ he, q⟩)
    have nE := NoEnt.of J na n0
    have S3 := Inv.caught J3 hex he3 hz3.1 hz3.2.1 hd3 (hz3.2.2 _ hd3) na nL nF nE np
    have go : ∀ {hds' : List ExceptHandler} {l' : List Cl}, ClsOk X hds' l' → (∀ c ∈ l', ∀ x ∈ c.cs, ExTab X.K X.mg tb x) → PostSt X.K X.mg W g' H' os' D (handle l' e env' st') →
        wpAny (model X.prog X.w) X.A (handleBy (.ref a) X.env hds') (SP X pins D) X.xe { s' with heap := h3 } := by
      intro hds' l' hk
      -- the test of a clause with one name
      have test : ∀ {x : Str} {np : Pos} {Q : Bool → Shared → Prop} {E : Value → Shared → Prop}, Gl X x → (x == ("__debug__" : Str)) = false → ExTab X.K X.mg tb x → Q (decide (e.cls = x)) { s' with heap := h3 } →
          wpAny (model X.prog X.w) (X.A.mark (some (.ref a))) (eval (.Name x np) X.env) (fun v s4 => wpAny (model X.prog X.w) (X.A.mark (some (.ref a))) (excMatches (.ref a) v) Q E s4) E { s' with heap := h3 } := fun {x np Q E} hg hdb hx q => by
        obtain ⟨c', mc', hx'⟩ := hx
        obtain ⟨c2, mc2, hex2⟩ := hx' e.cls hm
        rw [mc] at mc2
        cases mc2
        have LT : PySem.W.Looks (model X.prog X.w) h3 (typeOf (.ref a)) (.ref c) := fun A Q E s k q => wpAny_typeOf_ref (k _ _ he3) (by rw [hz3.1]; exact q)
        have LM := PySem.W.exm_one (M := model X.prog X.w) (J3.kIn) LT hex2
        exact ld_glob (X := suiteH X a (xcO oe3 c dd) (X.pn ++ pins)) S3 hg mc' (LM.here q) hdb
      induction hk with
      | nil =>
        intro _ w
        refine wpAny_handleBy_nil ?_
        obtain ⟨k1, k2, k3, oe, vs, T, oT, ts', he, hz, hd, h1, hr⟩ := id fl3
        unfold PySem.passOn
        refine wpAny_bind (wpAny_field he hd h1 ?_)
        rw [if_neg (show ¬ ((Value.ref T == Value.none) = true) from by simp)]
        have fin : wpAny (model X.prog X.w) X.A (setFlight (.ref a) X.env.frame) (fun _ s4 => wpAny (model X.prog X.w) X.A (throw (.ref a) : Sem Flow) (SP X pins D) X.xe s4) X.xe { s' with heap := h3 } := by
          rw [hf]
          refine HandSPX.setFlight_upZ fl3 fun h4 hh4 up4 => wpAny_throw (tk _ _ ?_)
          refine ⟨a, B, sI, pins, σ', H', _, _, rfl, J, nb, (up.trans up3).trans up4, .inr (.inr (by rw [hs]; exact hh4)), na, os, ag, e, st', g', S', ⟨mc, c, dd, zs, rfl, rfl, kd, rf⟩, ?_⟩
          exact w σ' g' H' os' Step.refl e1 o1 S'
        first
          | exact wpAny_bind (wpAny_pure (wpAny_bind fin))
          | exact wpAny_bind fin
      | @one x b₀ suite np2 pos' hds2 l2 f hg hdb hsu r ih =>
        intro ht w
        refine wpAny_handleBy_cons (codeAny_handlers_test ?_) (by intro q; cases q)
        refine test hg hdb (ht _ List.mem_cons_self x List.mem_cons_self) ?_
        by_cases hcl : e.cls = x
        · rw [decide_eq_true hcl]
          refine codeAny_handlers_suite ?_
          refine HandSPX.lands_againZ fl3 fun h4 fl4 up4 => ?_
          have J4 : L2.Inv X pins σ' H' { s' with heap := h4 } := J.landed nb fl4.1 ((up.trans up3).trans up4) os ag
          obtain ⟨oe4, vs4, he4, hz4, hd4⟩ := fl4.there
          have S4 := Inv.caught J4 hex he4 hz4.1 hz4.2.1 hd4 (hz4.2.2 _ hd4) na nL nF nE np
          have hot4 := hot_suite (X := X) (a := a) (c := c) (dd := dd) (pn := X.pn ++ pins) hd4 (hz4.2.2 _ hd4)
          obtain ⟨SS, s2⟩ := S'.newF (o := xcO oe4 c dd) na
          have w' : PostSt X.K X.mg W g' H' os' D (EV.noEr (f env' st')) := by
            unfold handle at w
            rw [if_pos (by rw [hcl]; exact List.mem_cons_self)] at w
            exact w
          refine wpAny_mono ((hsu a _ (X.pn ++ pins) hot4).run [] _ _ _ _ S4 ⟨_, env', st', os', e1.step' o1 s2, o1.step s2, SS, (PostSt.noEr w').step (s2.frame os')⟩) (fun fw s6 hsp => ?_) (fun _ _ z => False.elim z)
          cases fw with
          | next =>
            obtain ⟨σ6, H6, S6, q6⟩ := hsp
            exact ⟨_, _, Inv.uncaught S6 ok nE, q6⟩
          | brk =>
            obtain ⟨σ6, H6, S6, q6⟩ := hsp
            exact ⟨_, _, Inv.uncaught S6 ok nE, q6⟩
          | cont =>
            obtain ⟨σ6, H6, S6, q6⟩ := hsp
            exact ⟨_, _, Inv.uncaught S6 ok nE, q6⟩
          | ret u =>
            obtain ⟨v6, σ6, H6, S6, r6, q6⟩ := hsp
            exact ⟨_, _, _, Inv.uncaught S6 ok nE, r6, q6⟩
        · rw [decide_eq_false hcl]
          refine ih (fun c hc => ht c (List.mem_cons_of_mem _ hc)) ?_
          unfold handle at w
          rw [if_neg (by simpa using hcl)] at w
          exact w
      | @oneAs x n i b₀ suite np2 pos' hds2 l2 f hg hdb hi hln hsu r ih =>
        intro ht w
        refine wpAny_handleBy_cons (codeAny_handlers_test ?_) (by intro q; cases q)
        refine test hg hdb (ht _ List.mem_cons_self x List.mem_cons_self) ?_
        by_cases hcl : e.cls = x
        · rw [decide_eq_true hcl]
          refine codeAny_handlers_suite_as ?_
          refine HandSPX.lands_againZ fl3 fun h4 fl4 up4 => ?_
          have J4 : L2.Inv X pins σ' H' { s' with heap := h4 } := J.landed nb fl4.1 ((up.trans up3).trans up4) os ag
          obtain ⟨oe4, vs4, he4, hz4, hd4⟩ := fl4.there
          have S4 := Inv.caught J4 hex he4 hz4.1 hz4.2.1 hd4 (hz4.2.2 _ hd4) na nL nF nE np
          have hot4 := hot_suite (X := X) (a := a) (c := c) (dd := dd) (pn := X.pn ++ pins) hd4 (hz4.2.2 _ hd4)
          obtain ⟨SS, s2⟩ := S'.newF (o := xcO oe4 c dd) na
          have w' : PostSt X.K X.mg W g' H' os' D (EV.unE i (f (env'.set i (.vl (.exc e.cls e.fs))) st')) := by
            unfold handle at w
            rw [if_pos (by rw [hcl]; exact List.mem_cons_self)] at w
            exact w
          have rx : Rep X.K X.mg (g'.freeze a (xcO oe4 c dd)) (.exc e.cls e.fs) (.ref a) := .exc mc upd_same (s2.ext.kp _ _ kd) (rf.ext s2.ext)
          obtain ⟨os2, q1, q2, q3⟩ := EnvOk.set (SlotOk.vl (H := upd H' a (xcO oe4 c dd)) rx) i (e1.step' o1 s2)
          have o2 := o1.step s2
          have hsub : ∀ b ∈ os2, b ∈ os' := fun b hb => by simpa using q2 b hb
          have o3 := o2.sub hsub (q3 (by simpa using o2.nd))
          refine store_ok (X := suiteH X a (xcO oe4 c dd) (X.pn ++ pins)) (v := .ref a) S4 hN hi (.inl hln) rfl (fun s5 S5 => ?_) (.inr hln)
          refine wpAny_mono ((hsu a _ (X.pn ++ pins) hot4).run [] s5 _ _ _ S5 ⟨_, _, st', os2, q1, o3, SS, (PostSt.unE w').step ((s2.frame os').sub hsub)⟩) (fun fw s6 hsp => ?_) (fun _ _ z => False.elim z)
          have end_ : ∀ {σ6 : L2.St} {H6 : Hp} {Q : Shared → Prop}, L2.Inv (suiteH X a (xcO oe4 c dd) (X.pn ++ pins)) [] σ6 H6 s6 → (∀ s7, L2.Inv X pins (σ6.set i none) H6 s7 → Q s7) →
              wpAny (model X.prog X.w) X.A (do bindName X.env n .none; unbindBehindTheSuite X.env n pos') (fun _ s7 => Q s7) X.xe s6 := fun {σ6 H6 Q} S6 hq => gone_ok (Inv.uncaught S6 ok nE) hN hi hln hq
          cases fw with
          | next =>
            obtain ⟨σ6, H6, S6, q6⟩ := hsp
            exact end_ S6 fun s7 J7 => ⟨_, _, J7, q6⟩
          | brk =>
            obtain ⟨σ6, H6, S6, q6⟩ := hsp
            exact end_ S6 fun s7 J7 => ⟨_, _, J7, q6⟩
          | cont =>
            obtain ⟨σ6, H6, S6, q6⟩ := hsp
            exact end_ S6 fun s7 J7 => ⟨_, _, J7, q6⟩
          | ret u =>
            obtain ⟨v6, σ6, H6, S6, r6, q6⟩ := hsp
            exact end_ S6 fun s7 J7 => ⟨_, _, _, J7, r6, q6⟩
        · rw [decide_eq_false hcl]
          refine ih (fun c hc => ht c (List.mem_cons_of_mem _ hc)) ?_
          unfold handle at w
          rw [if_neg (by simpa using hcl)] at w
          exact w
    exact go hh ht hp
  · obtain ⟨g, env, st, os, hv, ho, hS, h⟩ := h
    refine ⟨g, env, st, os, hv, ho, hS, ?_⟩
    unfold sTry at h
    show PostSt _ _ _ _ _ _ _ (fb env st)
    generalize fb env st = r at h ⊢
    cases r with
    | er e env1 st1 =>
      intro σ' g' H' os' s1 e1 o1 S1
      dsimp only at h
      split at h
      · next hm => exact ⟨env1, os', e1, o1, hm, PostSt.step h s1⟩
      · exact h.elim
    | nx _ _ => exact h
    | rt _ _ => exact h
    | br _ _ => exact h
    | ct _ _ => exact h
    | stuck => exact h
  · cases f with
    | next =>
      obtain ⟨σ', H', J', q⟩ := hsp
      exact wpAny_execs_nil ⟨σ', H', J'.ofTry ok, q⟩
    | brk =>
      obtain ⟨σ', H', J', q⟩ := hsp
      exact ⟨σ', H', J'.ofTry ok, q⟩
    | cont =>
      obtain ⟨σ', H', J', q⟩ := hsp
      exact ⟨σ', H', J'.ofTry ok, q⟩
    | ret u =>
      obtain ⟨v, σ', H', J', r, q⟩ := hsp
      exact ⟨v, σ', H', J'.ofTry ok, r, q⟩
end
end EV
namespace EV
open PySem PySem.Spec PyProof.Rows L2
/-! ### e.f of a caught exception -/
def XfAt (K : PySem.W.Frag) (mg : Str → Option Value) (C f : Str) : Prop := ∃ c, mg C = some (.ref c) ∧ XfC K c ∧ PySem.W.findIn K (.ref c) f = some none
def xfF (C f : Str) : D → Store → Res D := fun d st => match d with
  | .exc C' fs => if C' = C then (match lkF fs f with
    | some x => .ok x st
    | none => .stuck) else .stuck
  | _ => .stuck
theorem e_xf {X : Cx} {W : Wi} {o : Expr} {fo : En → Store → Res D} {C f : Str} {pos : Pos} (ho : EE X W o fo) (hT : XfAt X.K X.mg C f) (hb : attributeBase o f X.env (eval o X.env) = eval o X.env := by rfl) : EE X W (.Attribute o f pos) (v1 (xfF C f) fo) := by
  refine ⟨fun pins s σ H Q I h => ?_⟩
  obtain ⟨g, env, st, os, hv, hos, hS, h⟩ := h
  refine attr_of hb (thn (ho.run pins s σ H _ I ⟨g, env, st, os, hv, hos, hS, Post.bind h⟩) fun u s1 ⟨x, H1, I1, rx, q⟩ => ?_)
  obtain ⟨g1, d, st1, s1', rd, S1, h1⟩ := q
  unfold xfF at h1
  split at h1
  · next C' fs =>
    split at h1
    · next hC =>
      subst hC
      split at h1
      · next y hy =>
        cases rd with
        | @exc _ c a dd oe _ zs m ka kd rf =>
          obtain rfl : u = Value.ref a := rx
          obtain ⟨c', mc, T, hno⟩ := hT
          rw [m] at mc
          cases mc
          have h2 : ObjOk X.prog X.w H1 s1.heap a (xcO oe c dd) := I1.hok a _ (S1.kp _ _ ka)
          obtain ⟨he, ⟨hc, hd, vs, hf, _⟩, _⟩ := h2
          have hx : ObjOk X.prog X.w H1 s1.heap dd (.xd zs) := I1.hok dd _ (S1.kp _ _ kd)
          obtain ⟨mA, hns, hr⟩ := hx
          obtain ⟨od, hod, hl⟩ := lookIn_ns hns
          obtain ⟨v, hz, rv⟩ := (RepF.get (f := f) rf).1 y hy
          obtain ⟨u, hu, ru⟩ := RelO.some_of (v := v) (o := mA f) (by rw [← hz]; exact hr f)
          have J : PySem.W.InstAt s1.heap a oe c (some od) := ⟨he, hc, by unfold PySem.W.notCls; rw [hf] <;> rfl, by rw [hd]; exact hod⟩
          exact HandSPX.exc_get I1.kIn J T.ga T.gg T.exC (PySem.W.findObj_own T.hdC hno rfl (by rw [hl, hu])) (handed_of ru) ⟨v, H1, I1.tok _, ru, h1.here rv S1⟩
      · exact h1.elim
    · exact h1.elim
  · exact h1.elim
section
variable {K : PySem.W.Frag} {mg : Str → Option Value} {tb : List Str}
theorem ct_nil : ∀ c ∈ ([] : List Cl), ∀ x ∈ c.cs, ExTab K mg tb x := fun _ h => nomatch h
theorem ct_one {x : Str} {nm : Option Nat} {f : En → Store → ResS} {l : List Cl} (h : ExTab K mg tb x) (r : ∀ c ∈ l, ∀ x ∈ c.cs, ExTab K mg tb x) : ∀ c ∈ ((⟨[x], nm, f⟩ : Cl) :: l), ∀ x ∈ c.cs, ExTab K mg tb x := fun c hc y hy => by
  rcases List.mem_cons.mp hc with rfl | hc
  · have e : y = x := by simpa using hy
    rw [e]
    exact h
  · exact r c hc y hy
theorem exTab_mk {C' : Str} {c' : Addr} (m : mg C' = some (.ref c')) (h : ∀ C ∈ tb, ∃ c, mg C = some (.ref c) ∧ PySem.W.exmOne K (.ref c) (.ref c') = some (decide (C = C'))) : ExTab K mg tb C' := ⟨c', m, h⟩
theorem ext_nil {c' : Addr} {C' : Str} : ∀ C ∈ ([] : List Str), ∃ c, mg C = some (.ref c) ∧ PySem.W.exmOne K (.ref c) (.ref c') = some (decide (C = C')) := fun _ h => nomatch h
theorem ext_cons {c' c : Addr} {C' C : Str} (m : mg C = some (.ref c)) (h : PySem.W.exmOne K (.ref c) (.ref c') = some (decide (C = C'))) (r : ∀ C ∈ tb, ∃ c, mg C = some (.ref c) ∧ PySem.W.exmOne K (.ref c) (.ref c') = some (decide (C = C'))) :
    ∀ D ∈ C :: tb, ∃ c, mg D = some (.ref c) ∧ PySem.W.exmOne K (.ref c) (.ref c') = some (decide (D = C')) := fun D hD => by
  rcases List.mem_cons.mp hD with rfl | hD
  · exact ⟨c, m, h⟩
  · exact r D hD
end
end EV
namespace EV
open PySem PySem.Spec PyProof.Rows L2
variable {E : ErP} {Ee : ErS}
abbrev noEs : ErS := fun _ _ _ => False
section
variable {nx br ct : NX} {rt : RT} {env : En} {st : Store} {fb : En → Store → ResS} {fa : En → Store → Res (List D)} {x : Str} {fl cs tb : List Str} {hs r : List Cl} {e : Er} {bd : En → Store → ResS} {i : Nat}
theorem go_raise (q : (fa env st).holds (atE Ee env) fun ds st => ds.length = fl.length ∧ Ee ⟨x, (fl.zip ds).reverse⟩ env st) : (sRaise x fl fa env st).runs Ee nx rt br ct := by
  refine go_go (q.imp fun ds st h => ?_)
  rw [if_pos h.1]
  exact h.2
theorem go_try (q : (fb env st).runs (fun e env st => e.cls ∈ tb ∧ (handle hs e env st).runs Ee nx rt br ct) nx rt br ct) : (sTry tb fb hs env st).runs Ee nx rt br ct := by
  unfold sTry
  revert q
  generalize fb env st = r
  intro q
  cases r with
  | er e env1 st1 =>
    show ResS.runs (if e.cls ∈ tb then handle hs e env1 st1 else .stuck) _ _ _ _ _
    rw [if_pos q.1]
    exact q.2
  | _ => exact q
theorem go_hdAs (h : e.cls ∈ cs) (q : Nm (env.set i (.vl (.exc e.cls e.fs))) fun env => (bd env st).runs noEs (fun env st => nx (env.set i .un) st) rt (fun env st => br (env.set i .un) st) (fun env st => ct (env.set i .un) st)) : (handle (⟨cs, some i, bd⟩ :: r) e env st).runs Ee nx rt br ct := by
  unfold Nm at q
  unfold handle
  rw [if_pos h]
  show (unE i (bd (env.set i (.vl (.exc e.cls e.fs))) st)).runs _ _ _ _ _
  revert q
  generalize bd (env.set i (.vl (.exc e.cls e.fs))) st = r2
  intro q
  cases r2 with
  | er _ _ _ => exact (q : False).elim
  | _ => exact q
theorem go_xf {C f : Str} {fs : List (Str × D)} {d : D} {P : D → Store → Prop} (h : lkF fs f = some d) (q : P d st) : (xfF C f (.exc C fs) st).holds E P := by
  unfold xfF
  simp only [if_pos, h]
  exact q
end
end EV
namespace EV
open PySem PySem.Spec PyProof.Rows L2
end EV
set_option Elab.async false
set_option linter.all false
set_option autoImplicit false
set_option maxRecDepth 100000
set_option maxHeartbeats 1000000
/-! dict displays with texts as keys; such dicts read and written -/
namespace EV
open PySem PySem.Spec PyProof.Rows L2
variable {E : ErP} {Ee : ErS}
def zipS (ks : List Str) (ds : List D) : List (DK × D) := (ks.zip ds).map fun p => (.k (.inr p.1), p.2)
def dsD (ks : List Str) (fl : En → Store → Res (List D)) : En → Store → Res Slot := fun env st => (fl env st).bind fun ds st => if ds.length = ks.length then .ok (.od false (zipS ks ds)) st else .stuck
section
variable {X : Cx} {W : Wi} {pos : Pos}
inductive DsE (X : Cx) (W : Wi) : List (Option Expr) → List Expr → List Str → List (TE × TE) → (En → Store → Res (List D)) → Prop
  | nil : DsE X W [] [] [] [] vNil
  | cons {x : Str} {j : Nat} {p : Pos} {v : Expr} {ks : List (Option Expr)} {vs : List Expr} {xs : List Str} {trs : List (TE × TE)} {f : En → Store → Res D} {fl : En → Store → Res (List D)} :
      EE X W v f → DsE X W ks vs xs trs fl → DsE X W (some (.Constant (.str x) j p) :: ks) (v :: vs) (x :: xs) ((tC (.str x), tE X.K X.mg W f) :: trs) (vCons f fl)
theorem DsE.pps {ks : List (Option Expr)} {vs : List Expr} {xs : List Str} {trs : List (TE × TE)} {fl : En → Store → Res (List D)} (h : DsE X W ks vs xs trs fl) : PPs X pos ks vs trs := by
  induction h with
  | nil => exact pps_nil
  | cons hv _ ih => exact pps_cons pe_str hv ih
theorem DsE.len {ks : List (Option Expr)} {vs : List Expr} {xs : List Str} {trs : List (TE × TE)} {fl : En → Store → Res (List D)} (h : DsE X W ks vs xs trs fl) : ks.length = xs.length ∧ vs.length = xs.length ∧ ks.all (·.isSome) = true := by
  induction h with
  | nil => exact ⟨rfl, rfl, rfl⟩
  | cons _ _ ih => exact ⟨by simp [ih.1], by simp [ih.2.1], by simp [ih.2.2]⟩
def prS (xs : List Str) (ws : List V) : List (Key × V) := (xs.zip ws).map fun p => (.inr p.1, p.2)
def prV (xs : List Str) (ws : List V) : List (V × V) := (prS xs ws).map fun kv => (kV kv.1, kv.2)
theorem ds_reads {ks : List (Option Expr)} {vs : List Expr} {xs : List Str} {trs : List (TE × TE)} {fl : En → Store → Res (List D)} (h : DsE X W ks vs xs trs fl) : ∀ {g : G} {env : En} {st : Store} {os : List Addr} {σ : L2.St} {H : Hp} {Q : List (V × V) → Hp → Prop}, EnvOk X.K X.mg g H env σ os → OsOk g H os → SOk X.K X.mg g st H →
    Post X.K X.mg (RepL X.K X.mg) W g H σ (fl env st) (fun ws H' => ws.length = xs.length → Q (prV xs ws) H') → tPairs trs σ H Q := by
  induction h with
  | nil =>
    intro g env st os σ H Q hv ho hS h
    exact h.here (R := RepL X.K X.mg) .nil hS rfl
  | @cons x j p v ks vs xs trs f fl he hd ih =>
    intro g env st os σ H Q hv ho hS h
    show tE X.K X.mg W f σ H _
    refine ⟨g, env, st, os, hv, ho, hS, ?_⟩
    have h' : Post X.K X.mg (RepL X.K X.mg) W g H σ ((f env st).bind fun x st => (fl env st).bind fun xs st => .ok (x :: xs) st) (fun ws H' => ws.length = (x :: xs).length → Q (prV (x :: xs) ws) H') := h
    refine (Post.bind (R := Rep X.K X.mg) h').imp fun y H1 q => ?_
    obtain ⟨g1, d, st1, s1, r1, S1, h1⟩ := q
    refine ih (hv.step' ho s1) (ho.step s1) S1 ((Post.bind (R := RepL X.K X.mg) h1).imp fun ws H2 q hl => ?_)
    obtain ⟨g2, ds, st2, s2, r2, S2, h2⟩ := q
    exact h2.here (R := RepL X.K X.mg) (.cons (r1.ext s2.ext) r2) S2 (by rw [List.length_cons, List.length_cons, hl])
theorem putK_new {kvs : List (Key × V)} {k : Key} {v : V} (h : k ∉ kvs.map (·.1)) : putK kvs k v = kvs ++ [(k, v)] := by
  unfold putK
  rw [if_neg]
  intro z
  rw [List.any_eq_true] at z
  obtain ⟨p, hp, e⟩ := z
  exact h (List.mem_map.mpr ⟨p, hp, of_decide_eq_true e⟩)
theorem mergeK_new : ∀ {more kvs : List (Key × V)}, ((kvs ++ more).map (·.1)).Nodup → mergeK kvs more = kvs ++ more
  | [], kvs, _ => (List.append_nil _).symm
  | p :: r, kvs, nd => by
    have e : kvs ++ p :: r = (kvs ++ [p]) ++ r := by simp
    have hk : p.1 ∉ kvs.map (·.1) := by
      rw [List.map_append, List.nodup_append] at nd
      exact fun z => nd.2.2 _ z _ (by simp) rfl
    show mergeK (putK kvs p.1 p.2) r = _
    rw [putK_new hk, e]
    exact mergeK_new (by rw [← e]; exact nd)
theorem prS_keys : ∀ {xs : List Str} {ws : List V}, ws.length = xs.length → (prS xs ws).map (·.1) = xs.map .inr
  | [], [], _ => rfl
  | x :: xs, w :: ws, h => by
    show Sum.inr x :: (prS xs ws).map (·.1) = _
    rw [prS_keys (by simpa using h)]
    rfl
  | [], _ :: _, h => by simp at h
  | _ :: _, [], h => by simp at h
theorem zipS_keys : ∀ {xs : List Str} {ws : List D}, ws.length = xs.length → (zipS xs ws).map (·.1) = xs.map fun x => .k (.inr x)
  | [], [], _ => rfl
  | x :: xs, w :: ws, h => by
    show DK.k (.inr x) :: (zipS xs ws).map (·.1) = _
    rw [zipS_keys (by simpa using h)]
    rfl
  | [], _ :: _, h => by simp at h
  | _ :: _, [], h => by simp at h
theorem repD_zip {K : PySem.W.Frag} {mg : Str → Option Value} {g : G} : ∀ {xs : List Str} {ds : List D} {ws : List V}, RepL K mg g ds ws → RepD K mg g (zipS xs ds) (.dK (prS xs ws))
  | [], _, _, _ => .nilK
  | _ :: _, _, _, .nil => .nilK
  | _ :: _, _, _, .cons r t => .consK r (repD_zip t)
theorem s_disp {ks : List (Option Expr)} {vs : List Expr} {xs : List Str} {trs : List (TE × TE)} {fl : En → Store → Res (List D)} (h : DsE X W ks vs xs trs fl) (h0 : ks ≠ []) (h15 : xs.length ≤ 15) (nd : xs.Nodup) : SE X W (.Dict ks vs pos) (dsD xs fl) := by
  obtain ⟨l1, l2, l3⟩ := h.len
  refine ⟨fun pins s σ H Q I q => (pe_disp h.pps l3 (l1.trans l2.symm) h0 (by rw [l1]; exact h15)).run pins s σ H Q I fun p hp => ?_⟩
  obtain ⟨g, env, st, os, hv, ho, hS, q⟩ := q
  obtain ⟨S1, s1, o1⟩ := hS.newO (o := .dK []) hp
  have s0 : Step g H [] g (upd H p (.dK [])) [] := ⟨s1.ext, s1.fr, s1.th, s1.nf, s1.nk, fun _ z => nomatch z⟩
  have q0 : PostS X.K X.mg W g H σ ((fl env st).bind fun ds st => if ds.length = xs.length then .ok (.od false (zipS xs ds)) st else .stuck) Q := q
  refine ds_reads h (hv.step' ho s0) (ho.step s0) S1 ?_
  revert q0
  generalize fl env st = r
  intro q0
  cases r with
  | stuck => exact q0
  | er e st1 => exact fun g2 H2 s2 S2 => q0 g2 H2 (s0.trans s2) S2
  | ok ds st1 =>
    have q1 : PostS X.K X.mg W g H σ (if ds.length = xs.length then .ok (.od false (zipS xs ds)) st1 else .stuck) Q := q0
    intro ws g2 H2 s2 rl S2 hl
    rw [if_pos (rl.length.trans hl)] at q1
    have hd : H2 p = some (.dK []) := (s2.fr p (by rw [upd_same]; simp) (fun z => o1.fp p (by simp) z) (by simp)).trans upd_same
    have o2 := o1.step s2
    have hz : (prS xs ws).length = xs.length := by
      have e := congrArg List.length (prS_keys hl)
      rw [List.length_map, List.length_map] at e
      exact e
    have ndk : ((([] : List (Key × V)) ++ prS xs ws).map (·.1)).Nodup := by
      rw [List.nil_append, prS_keys hl]
      exact List.Pairwise.map _ (fun a b h z => h (Sum.inr.inj z)) nd
    refine ⟨hd, prS xs ws, rfl, by rw [hz]; exact h15, ?_⟩
    rw [mergeK_new ndk, List.nil_append]
    have ndz : ((zipS xs ds).map (·.1)).Nodup := by
      rw [zipS_keys (rl.length.trans hl)]
      exact List.Pairwise.map _ (fun a b h z => h (by cases z; rfl)) nd
    exact q1 (.ref p) g2 _ [p] ((s1.trans (s2.frame [p])).trans (Step.wrO (by simp) (by rw [hd]; simp) fun _ z => z)) (osOk_one upd_same (o2.kp p (by simp)) (o2.fp p (by simp))) (.od upd_same (repD_zip rl) trivial ndz) (S2.wrO (o2.kp p (by simp)) (o2.fp p (by simp)))
end
section
variable {st : Store} {env : En} {P : D → Store → Prop} {PS : Slot → Store → Prop}
def DsQ (xs : List Str) (ds : List D) (Q : List (DK × D) → Prop) : Prop := ds.length = xs.length ∧ Q (zipS xs ds)
theorem go_ds {xs : List Str} {ds : List D} {kvs : List (DK × D)} {Q : List (DK × D) → Prop} (l : ds.length = xs.length) (e : zipS xs ds = kvs) (q : Q kvs) : DsQ xs ds Q := ⟨l, e ▸ q⟩
theorem zipS_nil : zipS [] [] = [] := rfl
theorem zipS_cons {x : Str} {xs : List Str} {d : D} {ds : List D} : zipS (x :: xs) (d :: ds) = (.k (.inr x), d) :: zipS xs ds := rfl
theorem go_disp {xs : List Str} {fl : En → Store → Res (List D)} (q : (fl env st).holds E fun ds st => DsQ xs ds fun kvs => PS (.od false kvs) st) : (dsD xs fl env st).holds E PS := by
  unfold dsD
  rw [Res.holds_bind]
  refine q.imp fun ds st h => ?_
  rw [if_pos h.1]
  exact h.2
theorem lkd_hd {k : DK} {d : D} {r : List (DK × D)} : lkD ((k, d) :: r) k = some d := if_pos rfl
theorem lkd_tl {k x : DK} {d e : D} {r : List (DK × D)} (h : ¬x = k) (q : lkD r k = some e) : lkD ((x, d) :: r) k = some e := (if_neg h).trans q
/-- d[key], d a dict of the store -/
theorem go_ixS {n : Nat} {t : Bool} {kvs : List (DK × D)} {x : Str} {d : D} (h : st[n]? = some (.cell (.od t kvs))) (hl : lkD kvs (.k (.inr x)) = some d) (q : P d st) : (ixD (.ref n) (.str x) st).holds E P := by
  unfold ixD
  have e : dictOf st (.ref n) = some kvs := by
    unfold dictOf
    simp only [h]
  simp only [e, dkOf, hl]
  exact q
/-- d[key] = v -/
theorem setR_S {n : Nat} {kvs kvs' : List (DK × D)} {x : Str} {d : D} (h : st[n]? = some (.cell (.od false kvs))) (hz : kvs.length < sizeLine) (e : putD kvs (.k (.inr x)) d = kvs') : setR (.ref n) (.str x) d st = some (st.set n (.cell (.od false kvs'))) := by
  subst e
  unfold setR
  simp only [h, dkOf, DK.isT, true_and, if_pos hz]
theorem nd_hd {k : DK} {d d' : D} {r : List (DK × D)} : putD ((k, d) :: r) k d' = (k, d') :: r := if_pos rfl
theorem nd_tl {k x : DK} {d d' : D} {r r' : List (DK × D)} (h : ¬x = k) (q : putD r k d' = r') : putD ((x, d) :: r) k d' = (x, d) :: r' := (if_neg h).trans (by rw [q])
theorem go_setRS {n : Nat} {kvs kvs' : List (DK × D)} {x : Str} {d : D} {Q : Store → Prop} (h : st[n]? = some (.cell (.od false kvs))) (hz : kvs.length < 1000) (e : putD kvs (.k (.inr x)) d = kvs') (q : Q (st.set n (.cell (.od false kvs')))) : ∃ st', setR (.ref n) (.str x) d st = some st' ∧ Q st' := ⟨_, setR_S h (Nat.lt_of_lt_of_le hz line1000) e, q⟩
/-! a text in a list of texts -/
end
end EV
set_option Elab.async false
set_option linter.all false
set_option autoImplicit false
set_option maxRecDepth 100000
set_option maxHeartbeats 400000
/-! defs with keywords and defaults -/
namespace EV
open PySem PySem.Spec PyProof.Rows L2
/-- whence a parameter's value comes: a place, a keyword, the default -/
inductive Sl where
  | p (i : Nat)
  | k (j : Nat)
  | d (x : D)
def DfR : D → Value → Prop
  | .int i, u => ∃ t, u = .int i t
  | .bl b, u => u = .bool b
  | _, _ => False
inductive SelR (us ws : List Value) : List Sl → List Value → Prop
  | nil : SelR us ws [] []
  | p {i : Nat} {x : Value} {ss : List Sl} {xs : List Value} : us[i]? = some x → SelR us ws ss xs → SelR us ws (.p i :: ss) (x :: xs)
  | k {i : Nat} {x : Value} {ss : List Sl} {xs : List Value} : ws[i]? = some x → SelR us ws ss xs → SelR us ws (.k i :: ss) (x :: xs)
  | d {y : D} {x : Value} {ss : List Sl} {xs : List Value} : DfR y x → SelR us ws ss xs → SelR us ws (.d y :: ss) (x :: xs)
/-- how a call of n places and keywords ks is bound -/
def BindK (K : PySem.W.Frag) (fd : FuncData) (ps : List Str) (n : Nat) (ks : List Str) (ss : List Sl) : Prop :=
  ∀ (s : Shared) (us ws : List Value), K.In s.heap → us.length = n → ws.length = ks.length → ∃ xs, BindsTo s fd ⟨us, ks.zip ws⟩ (ps.zip xs) ∧ SelR us ws ss xs
def Shapes (K : PySem.W.Frag) (fd : FuncData) (ps : List Str) : List (Nat × List Str × List Sl) → Prop
  | [] => True
  | q :: l => BindK K fd ps q.1 q.2.1 q.2.2 ∧ Shapes K fd ps l
theorem Shapes.get {K : PySem.W.Frag} {fd : FuncData} {ps : List Str} : ∀ {l : List (Nat × List Str × List Sl)} {i : Nat} {q : Nat × List Str × List Sl}, Shapes K fd ps l → l[i]? = some q → BindK K fd ps q.1 q.2.1 q.2.2
  | _ :: _, 0, _, h, e => by
    rw [← Option.some.inj e]
    exact h.1
  | _ :: _, _ + 1, _, h, e => Shapes.get h.2 e
/-- a def with keywords -/
def DefOkK (P : Program) (w : World) (K : PySem.W.Frag) (mg : Str → Option Value) (base : Heap) (x : Str) (k : Nat) (ps : List Str) (F : List D → Store → Res D) (sh : List (Nat × List Str × List Sl)) : Prop :=
  ∃ f fd, mg x = some (.ref f) ∧ PySem.W.keepIn K (.ref f) = true ∧ Shapes K fd ps sh ∧ FnG P w K mg base k f fd ps (spE K mg ps.length F)
theorem DefOkK.mono {P : Program} {w : World} {K : PySem.W.Frag} {mg : Str → Option Value} {base : Heap} {x : Str} {j k : Nat} {ps : List Str} {F : List D → Store → Res D} {sh : List (Nat × List Str × List Sl)} (h : DefOkK P w K mg base x j ps F sh) (hk : j ≤ k) : DefOkK P w K mg base x k ps F sh := by
  obtain ⟨f, fd, a, b, c, d⟩ := h
  exact ⟨f, fd, a, b, c, d.mono hk⟩
/-! ### max(.., default=d) -/
end EV
set_option Elab.async false
set_option linter.all false
set_option autoImplicit false
set_option maxRecDepth 100000
set_option maxHeartbeats 1000000
/-! dicts with tuples for keys: let go, walked by items and by keys -/
namespace EV
open PySem PySem.Spec PyProof.Rows L2
variable {E : ErP} {Ee : ErS}
/-! ### a dict of the store that is written no more -/
/-! ### items -/
def keyD : Key → D
  | .inl i => .int i
  | .inr x => .str x
def dkD : DK → D
  | .k x => keyD x
  | .t xs => .tup (xs.map keyD)
theorem dkD_rep {K : PySem.W.Frag} {mg : Str → Option Value} {g : G} {k : Key} : Rep K mg g (keyD k) (kV k) := by
  cases k with
  | inl i => exact .int i
  | inr x => exact .str x
/-- a tuple that stands there is kept from now on -/
theorem tup_off {K : PySem.W.Frag} {mg : Str → Option Value} {g : G} {st : Store} {H : Hp} (S : SOk K mg g st H) {q : Addr} {xs : List V} (h : H q = some (.tup xs)) : q ∉ g.fp := by
  have key : ∀ {st : Store} {m : List (Addr × List Addr)}, StOk K mg g H st m → q ∉ fpOf m := by
    intro st m z
    induction z with
    | nil => exact fun z => nomatch z
    | @cons o p st m ob _ ih =>
      rw [fpOf_cons, List.mem_append]
      rintro (z | z)
      · cases ob with
        | @cell s a so =>
          obtain rfl := List.mem_singleton.mp z
          cases so with
          | ol h1 _ => rw [h] at h1; cases h1
          | @od t _ _ o h1 _ hd _ =>
            have hh : ∀ t, ¬ HO.isD t (.tup xs) := fun t => by cases t <;> exact id
            have e : o = .tup xs := Option.some.inj (h1.symm.trans h)
            rw [e] at hd
            exact hh _ hd
        | ins _ h1 h2 _ _ =>
          rcases List.mem_cons.mp z with z | z
          · subst z; rw [h] at h1; cases h1
          · obtain rfl := List.mem_singleton.mp z; rw [h] at h2; cases h2
        | gone => exact nomatch z
      · exact ih z
  exact key S.ob
theorem SOk.keepT {K : PySem.W.Frag} {mg : Str → Option Value} {g : G} {st : Store} {H : Hp} (S : SOk K mg g st H) {q : Addr} {xs : List V} (h : H q = some (.tup xs)) :
    ∃ g', g'.kp q = some (.tup xs) ∧ SOk K mg g' st H ∧ Step g H [] g' H [] := by
  cases e : g.kp q with
  | some u =>
    have := S.kp _ _ e
    rw [h] at this
    cases this
    exact ⟨g, e, S, Step.refl⟩
  | none =>
    refine ⟨g.freeze q (.tup xs), upd_same, S.freeze h e (tup_off S h), ext_freeze e, fun _ _ _ _ => rfl, fun _ z => z, fun _ z => .inl z, fun b z => ?_, fun _ z => nomatch z⟩
    by_cases eb : b = q
    · subst eb; exact .inr (.inr (.inr (.inr ⟨xs, h⟩)))
    · have z : upd g.kp q (.tup xs) b ≠ none := z
      rw [upd_ne eb] at z
      exact .inl z
end EV
set_option Elab.async false
set_option linter.all false
set_option autoImplicit false
set_option maxRecDepth 100000
set_option maxHeartbeats 1000000
/-! sorted, of tuples of whole numbers, any number of them -/
namespace EV
open PySem PySem.Spec PyProof.Rows L2 Srt SrtO
variable {E : ErP} {Ee : ErS}
/-! the sort itself -/
/-! in the heap -/
def IsNs (h : Heap) (v : Value) (ns : List Int) : Prop := ∃ a o its n, v = .ref a ∧ h.get? a = some o ∧ o.cls = .type "tuple" ∧ o.data = .seq its n ∧ Vals (ns.map V.int) its.toList
theorem IsNs.keeps {h h' : Heap} {v : Value} {ns : List Int} (p : IsNs h v ns) (k : ∀ b o, h.get? b = some o → o.cls = .type "tuple" → h'.get? b = some o) : IsNs h' v ns := by
  obtain ⟨a, o, its, n, e, ho, hc, r⟩ := p
  exact ⟨a, o, its, n, e, k _ _ ho hc, hc, r⟩
/-! as a rule -/
end EV
set_option Elab.async false
set_option linter.all false
set_option autoImplicit false
set_option maxRecDepth 100000
set_option maxHeartbeats 1000000
/-! a dict's keys walked; displays with a tuple for a key; two clauses -/
namespace EV
open PySem PySem.Spec PyProof.Rows L2
end EV
set_option Elab.async false
set_option linter.all false
set_option autoImplicit false
set_option maxRecDepth 100000
set_option maxHeartbeats 1000000
/-! list comprehensions of two clauses -/
namespace EV
open PySem PySem.Spec PyProof.Rows L2
/-! what they tell -/
end EV
set_option Elab.async false
set_option linter.all false
set_option autoImplicit false
set_option maxRecDepth 100000
set_option maxHeartbeats 1000000
/-! a list unpacked into a tuple of names -/
namespace EV
open PySem PySem.Spec PyProof.Rows L2
end EV
set_option Elab.async false
set_option linter.all false
set_option autoImplicit false
set_option maxRecDepth 100000
set_option maxHeartbeats 1000000
/-! the truth of a list -/
namespace EV
open PySem PySem.Spec PyProof.Rows L2
end EV
set_option Elab.async false
set_option linter.all false
set_option autoImplicit false
set_option maxRecDepth 100000
set_option maxHeartbeats 1000000
/-! a comprehension within a comprehension -/
namespace EV
open PySem PySem.Spec PyProof.Rows L2
end EV
set_option Elab.async false
set_option linter.all false
set_option autoImplicit false
set_option maxRecDepth 100000
set_option maxHeartbeats 1000000
/-! two in step, each a list or a tuple -/
namespace EV
open PySem PySem.Spec PyProof.Rows L2
def itK (k : Bool) (h : Heap) (it a : Addr) (i : Nat) : Prop := match k with
  | true => h.IsListIter it a i
  | false => h.IsTupleIter it a i
def arK (k : Bool) (h : Heap) (a : Addr) (xs : Array Value) : Prop := match k with
  | true => h.IsList a xs
  | false => h.IsTuple a xs
def newK (k : Bool) (a : Addr) : Obj := match k with
  | true => { cls := .type "list_iterator", data := .fields #[.ref a, .int 0 0] }
  | false => { cls := .type "tuple_iterator", data := .fields #[.ref a, .int 0 0] }
section
variable {k : Bool} {h h' : Heap} {it a : Addr} {i : Nat} {arr : Array Value}
theorem itK_keep (q : itK k h it a i) (hk : ∀ o, h.get? it = some o → h'.get? it = some o) : itK k h' it a i := by
  cases k with
  | true => exact Heap.IsListIter.at q fun o e => hk o e
  | false => exact Heap.IsTupleIter.at q fun o e => hk o e
end
end EV
set_option Elab.async false
set_option linter.all false
set_option autoImplicit false
set_option maxRecDepth 100000
set_option maxHeartbeats 1000000
/-! any number in step, strict or not; lists drawn from them -/
namespace EV
open PySem PySem.Spec PyProof.Rows L2
structure Sr where
  k : Bool
  it : Addr
  a : Addr
  arr : Array Value
def Sr.at (r : Sr) (i : Nat) (h : Heap) : Prop := itK r.k h r.it r.a i ∧ arK r.k h r.a r.arr
section
variable {prog : Program} {w : World} {A : Around} {E : Value → Shared → Prop} {s : Shared} {r : Sr} {i : Nat} {h h' : Heap}
theorem arK_keep {k : Bool} {a : Addr} {arr : Array Value} (q : arK k h a arr) (hk : ∀ o, h.get? a = some o → h'.get? a = some o) : arK k h' a arr := by
  cases k with
  | true => exact Heap.IsList.at q fun o e => hk o e
  | false => exact Heap.IsTuple.at q fun o e => hk o e
theorem sr_keep (st : r.at i h) (k1 : ∀ o, h.get? r.it = some o → h'.get? r.it = some o) (k2 : ∀ o, h.get? r.a = some o → h'.get? r.a = some o) : r.at i h' := ⟨itK_keep st.1 k1, arK_keep st.2 k2⟩
theorem Sr.stop {Q : Value → Shared → Prop} (hh : A.handled = none) (st : r.at i s.heap) (hx : r.arr[i]? = none)
    (hE : ∀ h' e, Heap.ExtBut r.it s.heap h' → (∃ o, h'.get? e = some o ∧ o.cls = .type "StopIteration") → E (.ref e) { s with heap := h' }) : wpAny (model prog w) A (Builtin.SmallTypes.nextOf (.ref r.it)) Q E s := by
  obtain ⟨k, it, a, arr⟩ := r
  obtain ⟨t1, t2⟩ := st
  cases k with
  | true => exact wpAny_nextOf_list_end hh t1 t2 hx hE
  | false => exact wpAny_nextOf_tuple_end hh t1 t2 hx hE
end
/-- the sources stand, the ones below j one further -/
def Srs (rs : List Sr) (i j : Nat) (h : Heap) : Prop := ∀ (m : Nat) (r : Sr), rs[m]? = some r → r.at (if m < j then i + 1 else i) h
def tupO (us : List Value) : Obj := { cls := .type "tuple", data := .seq us.toArray }
structure ZSep (z TI TO : Addr) (rs : List Sr) : Prop where
  nd : (rs.map (·.it)).Nodup
  a : ∀ r ∈ rs, r.a ∉ rs.map (·.it) ∧ r.a ≠ z ∧ r.a ≠ TO ∧ r.it ≠ z ∧ r.it ≠ TO ∧ r.it ≠ TI
  zTI : z ≠ TI
  zTO : z ≠ TO
  TITO : TI ≠ TO
section
variable {prog : Program} {w : World} {A : Around} {E : Value → Shared → Prop} {s : Shared} {z TI TO : Addr} {rs : List Sr} {i : Nat} {xs : List Value}
theorem Srs.next {h h' : Heap} {j : Nat} {r : Sr} (P : ZSep z TI TO rs) (S : Srs rs i j h) (hj : rs[j]? = some r) (hs : Heap.SameBut r.it h h') (hr : r.at (i + 1) h') : Srs rs i (j + 1) h' := fun m q hm => by
  by_cases e : m = j
  · subst e
    rw [hj] at hm
    cases hm
    rw [if_pos (Nat.lt_succ_self _)]
    exact hr
  · have hq := S m q hm
    have c : (if m < j + 1 then i + 1 else i) = if m < j then i + 1 else i := by
      by_cases h1 : m < j
      · rw [if_pos h1, if_pos (by omega)]
      · rw [if_neg h1, if_neg (by omega)]
    rw [c]
    have nit : q.it ≠ r.it := fun ee => e (by
      have l1 : m < (rs.map (·.it)).length := by rw [List.length_map]; exact (List.getElem?_eq_some_iff.mp hm).1
      refine (List.getElem?_inj l1 P.nd).mp ?_
      rw [List.getElem?_map, List.getElem?_map, hm, hj]
      show some q.it = some r.it
      exact congrArg some ee)
    have na : q.a ≠ r.it := fun ee => (P.a q (List.mem_of_getElem? hm)).1 (by rw [ee]; exact List.mem_map.mpr ⟨r, List.mem_of_getElem? hj, rfl⟩)
    exact sr_keep hq (fun o e => hs.extBut _ o nit e) fun o e => hs.extBut _ o na e
end
end EV
set_option Elab.async false
set_option linter.all false
set_option autoImplicit false
set_option maxRecDepth 100000
set_option maxHeartbeats 1000000
/-! a step of any number in step -/
namespace EV
open PySem PySem.Spec PyProof.Rows L2
section
variable {prog : Program} {w : World} {A : Around} {E : Value → Shared → Prop} {s : Shared} {z TI TO : Addr} {rs : List Sr} {i : Nat} {xs : List Value} {sc : Bool}
theorem Srs.all {h : Heap} (S : Srs rs i rs.length h) : Srs rs (i + 1) 0 h := fun m r hm => by
  have := S m r hm
  rw [if_pos (List.getElem?_eq_some_iff.mp hm).1] at this
  exact this
end
end EV
set_option Elab.async false
set_option linter.all false
set_option autoImplicit false
set_option maxRecDepth 100000
set_option maxHeartbeats 1000000
/-! the end of any number in step -/
namespace EV
open PySem PySem.Spec PyProof.Rows L2
section
variable {prog : Program} {w : World} {A : Around} {E : Value → Shared → Prop} {s : Shared} {z TI TO : Addr} {rs : List Sr} {i : Nat} {xs : List Value} {sc : Bool}
/-- the others are at their end, too -/
def ZTl (s : Shared) (rs : List Sr) (i : Nat) (j : Nat) (s' : Shared) : Prop :=
  ∃ h, s' = { s with heap := h } ∧ (∀ (m : Nat) (r : Sr), j ≤ m → rs[m]? = some r → r.at i h) ∧ ∀ c o, c ∉ rs.map (·.it) → s.heap.get? c = some o → h.get? c = some o
theorem ZTl.next {m : Nat} {r : Sr} {h h2 : Heap} (nd : (rs.map (·.it)).Nodup) (na : ∀ r ∈ rs, r.a ∉ rs.map (·.it)) (hr : rs[m]? = some r) (st : ∀ (m' : Nat) (r : Sr), m ≤ m' → rs[m']? = some r → r.at i h) (kp : ∀ c o, c ∉ rs.map (·.it) → s.heap.get? c = some o → h.get? c = some o)
    (hk : Heap.ExtBut r.it h h2) : ZTl s rs i (m + 1) { s with heap := h2 } := by
  have rm := List.mem_of_getElem? hr
  have rin : r.it ∈ rs.map (·.it) := List.mem_map.mpr ⟨r, rm, rfl⟩
  refine ⟨h2, rfl, fun m' q hm hq => ?_, fun c o hc e => hk c o (fun ee => hc (by rw [ee]; exact rin)) (kp c o hc e)⟩
  have qm := List.mem_of_getElem? hq
  refine sr_keep (st m' q (by omega) hq) (fun o e => hk _ o (fun ee => ?_) e) fun o e => hk _ o (fun ee => na q qm (by rw [ee]; exact rin)) e
  have l1 : m' < (rs.map (·.it)).length := by rw [List.length_map]; exact (List.getElem?_eq_some_iff.mp hq).1
  have : m' = m := (List.getElem?_inj l1 nd).mp (by
    rw [List.getElem?_map, List.getElem?_map, hq, hr]
    show some q.it = some r.it
    exact congrArg some ee)
  omega
end
end EV
set_option Elab.async false
set_option linter.all false
set_option autoImplicit false
set_option maxRecDepth 100000
set_option maxHeartbeats 1000000
/-! a count from a number told by its name -/
namespace EV
open PySem PySem.Spec PyProof.Rows L2
end EV
set_option Elab.async false
set_option linter.all false
set_option autoImplicit false
set_option maxRecDepth 100000
set_option maxHeartbeats 1000000
/-! any number in step begins -/
namespace EV
open PySem PySem.Spec PyProof.Rows L2
/-! begun -/
structure Ky where
  k : Bool
  a : Addr
  arr : Array Value
def pushL (h : Heap) : List Obj → Heap
  | [] => h
  | o :: os => pushL (h.push o) os
def srOf : Nat → List Ky → List Sr
  | _, [] => []
  | n, q :: qs => ⟨q.k, n, q.a, q.arr⟩ :: srOf (n + 1) qs
end EV
set_option Elab.async false
set_option linter.all false
set_option autoImplicit false
set_option maxRecDepth 100000
set_option maxHeartbeats 1000000
/-! any number in step is made -/
namespace EV
open PySem PySem.Spec PyProof.Rows L2
def kwSt : Bool → List (Str × Value)
  | true => [(Str.ofString "strict", .bool true)]
  | false => []
structure ZipCall (us : List Value) (sc : Bool) : Prop where
  ty : checkTypeCall "zip" ⟨us, kwSt sc⟩ = pure ()
  new : checkBuiltinCall "zip.__new__" ⟨.type "zip" :: us, kwSt sc⟩ = pure ()
  ini : ∀ obj, argsOk "object.__init__" ⟨obj :: us, kwSt sc⟩
theorem zs2 (a b : Value) : ZipCall [a, b] true := ⟨by kernel_rfl, by kernel_rfl, fun obj => by unfold argsOk; kernel_rfl⟩
def zIts (h : Heap) (qs : List Ky) : Heap := pushL h (qs.map fun q => newK q.k q.a)
def zTI (h : Heap) (qs : List Ky) : Heap := (zIts h qs).push (tupO ((srOf h.objs.size qs).map fun r => .ref r.it))
def zTO (h : Heap) (qs : List Ky) : Heap := (zTI h qs).push (tupO (((srOf h.objs.size qs).map fun r => Value.ref r.it).map fun _ => .none))
end EV
set_option Elab.async false
set_option linter.all false
set_option autoImplicit false
set_option maxRecDepth 100000
set_option maxHeartbeats 1000000
/-! any number in step: the rule of for and of comprehensions -/
namespace EV
open PySem PySem.Spec PyProof.Rows L2
end EV
set_option Elab.async false
set_option linter.all false
set_option autoImplicit false
set_option maxRecDepth 100000
set_option maxHeartbeats 1000000
/-! any number in step, as data -/
namespace EV
open PySem PySem.Spec PyProof.Rows L2
end EV
set_option Elab.async false
set_option linter.all false
set_option autoImplicit false
set_option maxRecDepth 100000
set_option maxHeartbeats 1000000
/-! a list of all that an iterator tells -/
namespace EV
open PySem PySem.Spec PyProof.Rows L2
structure Dz (prog : Program) (w : World) (A : Around) (it S : Addr) (fp : List Addr) (n : Nat) (tn : Nat → Heap → Prop) (Yl : Nat → List Addr → Value → Heap → Prop) : Prop where
  frame : ∀ i h h', tn i h → (∀ b o, b ≠ S → h.get? b = some o → h'.get? b = some o) → tn i h'
  item : ∀ (i : Nat) (s : Shared) (Q : Option Value → Shared → Prop) (E : Value → Shared → Prop), i < n → tn i s.heap → S < s.heap.objs.size → (∀ h' tk ks u, tn (i + 1) h' → Yl i ks u h' → ks.Pairwise (· < ·) → (∀ t ∈ ks, s.heap.objs.size ≤ t ∧ t < h'.objs.size) → s.heap.objs.size ≤ h'.objs.size →
    (∀ b o, b ∉ fp → s.heap.get? b = some o → h'.get? b = some o) → Q (some u) { s with heap := h', toks := tk }) → wpAny (model prog w) A (pyNext (.ref it)) Q E s
  done : ∀ (s : Shared) (Q : Option Value → Shared → Prop) (E : Value → Shared → Prop), tn n s.heap → (∀ h', (∀ b o, b ∉ fp → s.heap.get? b = some o → h'.get? b = some o) → Q none { s with heap := h' }) → wpAny (model prog w) A (pyNext (.ref it)) Q E s
  yk : ∀ i ks u h h', Yl i ks u h → (∀ b o, b ∈ ks → h.get? b = some o → h'.get? b = some o) → Yl i ks u h'
  low : ∀ b ∈ fp, b < S
  me : it ≠ S
/-- what was drawn so far -/
structure Dg (S : Addr) (Yl : Nat → List Addr → Value → Heap → Prop) (h : Heap) (kss : List (List Addr)) (us : List Value) : Prop where
  len : kss.length = us.length
  rise : kss.flatten.Pairwise (· < ·)
  there : ∀ t ∈ kss.flatten, S < t
  yl : ∀ (j : Nat) (ks : List Addr) (u : Value), kss[j]? = some ks → us[j]? = some u → Yl j ks u h
section
variable {prog : Program} {w : World} {A : Around} {it S : Addr} {fp : List Addr} {n : Nat} {tn : Nat → Heap → Prop} {Yl : Nat → List Addr → Value → Heap → Prop} {s : Shared} {R : Result → Shared → Prop}
theorem Dg.keep {h h' : Heap} {kss : List (List Addr)} {us : List Value} (D : Dz prog w A it S fp n tn Yl) (g : Dg S Yl h kss us) (k : ∀ b o, b ∉ fp → b ≠ S → h.get? b = some o → h'.get? b = some o) : Dg S Yl h' kss us := by
  refine ⟨g.len, g.rise, g.there, fun j ks u e1 e2 => D.yk j ks u h h' (g.yl j ks u e1 e2) fun b o hb e => k b o (fun zz => ?_) (fun zz => ?_) e⟩
  · have l1 := g.there b (List.mem_flatten.mpr ⟨ks, List.mem_of_getElem? e1, hb⟩)
    exact absurd (D.low b zz) (Nat.lt_asymm l1)
  · have l1 := g.there b (List.mem_flatten.mpr ⟨ks, List.mem_of_getElem? e1, hb⟩)
    rw [zz] at l1
    exact Nat.lt_irrefl _ l1
theorem Dg.snoc {h : Heap} {kss : List (List Addr)} {us : List Value} {ks : List Addr} {u : Value} {z0 : Nat} (g : Dg S Yl h kss us) (hz : ∀ t ∈ kss.flatten, t < z0) (hS : S < z0) (p : ks.Pairwise (· < ·)) (new : ∀ t ∈ ks, z0 ≤ t ∧ t < h.objs.size) (y : Yl us.length ks u h) : Dg S Yl h (kss ++ [ks]) (us ++ [u]) := by
  refine ⟨by rw [List.length_append, List.length_append, g.len]; rfl, ?_, fun t ht => ?_, fun j ks' u' e1 e2 => ?_⟩
  · rw [List.flatten_append, List.flatten_cons, List.flatten_nil, List.append_nil]
    exact List.pairwise_append.mpr ⟨g.rise, p, fun a ha b hb => Nat.lt_of_lt_of_le (hz a ha) (new b hb).1⟩
  · rw [List.flatten_append, List.flatten_cons, List.flatten_nil, List.append_nil] at ht
    rcases List.mem_append.mp ht with z | z
    · exact g.there t z
    · exact Nat.lt_of_lt_of_le hS (new t z).1
  · rcases Nat.lt_trichotomy j us.length with l | l | l
    · rw [List.getElem?_append_left (by rw [g.len]; exact l)] at e1
      rw [List.getElem?_append_left l] at e2
      exact g.yl j ks' u' e1 e2
    · subst l
      rw [List.getElem?_append_right (by rw [g.len]; exact Nat.le_refl _), g.len, Nat.sub_self] at e1
      rw [List.getElem?_append_right (Nat.le_refl _), Nat.sub_self] at e2
      cases e1
      cases e2
      exact y
    · rw [List.getElem?_eq_none (by rw [List.length_append, List.length_singleton]; omega)] at e2
      cases e2
end
end EV
set_option Elab.async false
set_option linter.all false
set_option autoImplicit false
set_option maxRecDepth 100000
set_option maxHeartbeats 1000000
/-! a dict by two sources, its keys tuples -/
namespace EV
open PySem PySem.Spec PyProof.Rows L2
end EV
set_option Elab.async false
set_option linter.all false
set_option autoImplicit false
set_option maxRecDepth 100000
set_option maxHeartbeats 1000000
/-! a dict by two sources: what it tells -/
namespace EV
open PySem PySem.Spec PyProof.Rows L2
end EV
set_option Elab.async false
set_option linter.all false
set_option autoImplicit false
set_option maxRecDepth 100000
set_option maxHeartbeats 1000000
/-! a list of the store made longer by a list -/
namespace EV
open PySem PySem.Spec PyProof.Rows L2
end EV
set_option Elab.async false
set_option linter.all false
set_option autoImplicit false
set_option maxRecDepth 100000
set_option maxHeartbeats 1000000
/-! what a dict with tuples for keys holds, walked -/
namespace EV
open PySem PySem.Spec PyProof.Rows L2
/-! name -= e, name += e: whole numbers -/
/-! range(i, j, -1) -/
end EV
set_option Elab.async false
set_option linter.all false
set_option autoImplicit false
set_option maxRecDepth 100000
set_option maxHeartbeats 1000000
/-! one tuple of whole numbers ahead of another one; how many tuples of a list are unlike -/
namespace EV
open PySem PySem.Spec PyProof.Rows L2
end EV
set_option Elab.async false
set_option linter.all false
set_option autoImplicit false
set_option maxRecDepth 100000
set_option maxHeartbeats 1000000
/-! isinstance of a caught error; len and truth of an instance that tells its length -/
namespace EV
open PySem PySem.Spec PyProof.Rows L2
structure IsxC (K : PySem.W.Frag) (c : Addr) : Prop where
  cl : (PySem.W.clsIn K c).isSome = true
  ga : PySem.W.findIn K (.ref c) "__getattribute__" = some (some (.builtin "BaseException.__getattribute__"))
  gt : PySem.W.findIn K (.ref c) "__getattr__" = some none
  sub : PySem.W.subIn K (.ref c) (.type "BaseException") = some true
  ha : PySem.W.findIn K (.ref c) "__class__" = some (some (.builtin "object.__class__"))
  hn : PySem.W.specialIn K (.builtin "object.__class__") "__get__" = some (some (.builtin "getset_descriptor.__get__"))
  tk : PySem.W.takesIn K (.builtin "object.__class__") = some true
  hm : PySem.W.mroIn K c (.type "object") = some true
def IsxO (K : PySem.W.Frag) (mg : Str → Option Value) (n : Str) (tb : List (Str × Bool)) : Prop := ∃ d, mg n = some (.ref d) ∧ PySem.W.keepIn K (.ref d) = true ∧ ∀ p ∈ tb, ∃ c, mg p.1 = some (.ref c) ∧ IsxC K c ∧ PySem.W.kitOne K (.ref c) (.ref d) = some p.2
def IsxB (K : PySem.W.Frag) (mg : Str → Option Value) (T : String) (tb : List (Str × Bool)) : Prop := ∀ p ∈ tb, ∃ c, mg p.1 = some (.ref c) ∧ IsxC K c ∧ PySem.W.kitOne K (.ref c) (.type T) = some p.2
def xlk : List (Str × Bool) → Str → Option Bool
  | [], _ => none
  | p :: r, x => if p.1 = x then some p.2 else xlk r x
theorem xlk_mem : ∀ {tb : List (Str × Bool)} {x : Str} {b : Bool}, xlk tb x = some b → (x, b) ∈ tb
  | [], _, _, h => nomatch h
  | p :: r, x, b, h => by
    unfold xlk at h
    split at h
    · next e =>
      cases h
      rw [← e]
      exact List.mem_cons_self
    · exact List.mem_cons_of_mem _ (xlk_mem h)
def isxO (n : Str) (tb : List (Str × Bool)) : List D → Store → Res D := fun xs st => match xs with
  | [.exc C _, .fn m] => if m = n then (match xlk tb C with
    | some b => .ok (.bl b) st
    | none => .stuck) else .stuck
  | _ => .stuck
def isxB (T : String) (tb : List (Str × Bool)) : List D → Store → Res D := fun xs st => match xs with
  | [.exc C _, .ty U] => if U = T then (match xlk tb C with
    | some b => .ok (.bl b) st
    | none => .stuck) else .stuck
  | _ => .stuck
section
variable {X : Cx}
theorem isx_call {pins : List (Addr × Obj)} {s : Shared} {σ : L2.St} {H : Hp} {g : G} {st : Store} {Q : VK} {a c dd : Addr} {oe : Obj} {zs : List (Str × V)} {t : Value} {b : Bool} (I : L2.Inv X pins σ H s) (S : SOk X.K X.mg g st H) (ka : g.kp a = some (xcO oe c dd)) (kd : g.kp dd = some (.xd zs))
    (hc : IsxC X.K c) (e : PySem.W.kitOne X.K (.ref c) t = some b) (q : Q (.bl b) H) : wpAny (model X.prog X.w) X.A (call (.builtin "isinstance") [.ref a, t]) (EP X pins σ Q) X.xe s := by
  have h2 : ObjOk X.prog X.w H s.heap a (xcO oe c dd) := I.hok a _ (S.kp _ _ ka)
  obtain ⟨he, ⟨hcl, hd, vs, hf, _⟩, _⟩ := h2
  have hx : ObjOk X.prog X.w H s.heap dd (.xd zs) := I.hok dd _ (S.kp _ _ kd)
  obtain ⟨mA, hns, hr⟩ := hx
  obtain ⟨od, hod, hl⟩ := lookIn_ns hns
  have J : PySem.W.InstAt s.heap a oe c (some od) := ⟨he, hcl, by unfold PySem.W.notCls; rw [hf] <;> rfl, by rw [hd]; exact hod⟩
  exact PySem.W.kia_one (PySem.W.kitx_exc hc.cl hc.ga hc.gt hc.sub hc.ha hc.hn hc.tk hc.hm) I.kIn J e (fun z => nomatch z) fun tk => ⟨.bl b, H, I.tok tk, rfl, q⟩
theorem b_isxO {n : Str} {tb : List (Str × Bool)} (h : IsxO X.K X.mg n tb) : OpL X (.builtin "isinstance") (isxO n tb) := fun W pins s σ H g st xs vs us Q I S r ru q => by
  unfold isxO at q
  split at q
  · next C fs m =>
    split at q
    · next hm =>
      subst hm
      split at q
      · next b hb =>
        obtain ⟨v, w, rfl, rv, rw⟩ := r.two
        obtain ⟨d, md, kd, hall⟩ := h
        obtain ⟨c, mc, hc, hk⟩ := hall _ (xlk_mem hb)
        cases rv with
        | @exc _ c' a dd oe _ zs mC ka kdd rf =>
          rw [mc] at mC
          cases mC
          cases rw with
          | @fn _ d' md' kk =>
            rw [md] at md'
            cases md'
            obtain ⟨u1, u2, rfl, r1, r2⟩ := vals2 ru
            cases r1; cases r2
            exact isx_call I S ka kdd hc hk (q.here (.bl _) S)
      · exact q.elim
    · exact q.elim
  · exact q.elim
theorem b_isxB {T : String} {tb : List (Str × Bool)} (h : IsxB X.K X.mg T tb) : OpL X (.builtin "isinstance") (isxB T tb) := fun W pins s σ H g st xs vs us Q I S r ru q => by
  unfold isxB at q
  split at q
  · next C fs U =>
    split at q
    · next hm =>
      subst hm
      split at q
      · next b hb =>
        obtain ⟨v, w, rfl, rv, rw⟩ := r.two
        obtain ⟨c, mc, hc, hk⟩ := h _ (xlk_mem hb)
        cases rv with
        | @exc _ c' a dd oe _ zs mC ka kdd rf =>
          rw [mc] at mC
          cases mC
          cases rw
          obtain ⟨u1, u2, rfl, r1, r2⟩ := vals2 ru
          cases r1; cases r2
          exact isx_call I S ka kdd hc hk (q.here (.bl _) S)
      · exact q.elim
    · exact q.elim
  · exact q.elim
end
/-! ### len(o), bool(o) -/
section
variable {prog : Program} {w : World} {A : Around} {E : Value → Shared → Prop} {s : Shared} {K : PySem.W.Frag} {x C f : Addr} {ox : Obj} {od : Option Obj}
theorem len_body {Q : Value → Shared → Prop} (X : K.In s.heap) (I : PySem.W.InstAt s.heap x ox C od) (hs : PySem.W.findIn K (.ref C) "__len__" = some (some (.ref f))) (hf : PySem.W.isFn K (.ref f) = true)
    (h : wpAny (model prog w) A (call (.ref f) [.ref x]) (PySem.W.LenBack Q) E s) : wpAny (model prog w) A (Builtin.«len» ⟨[.ref x], []⟩) (fun fin s' => ∃ r, fin = .done (.ret r) ∧ Q r s') E s := by
  unfold Builtin.«len»
  refine wpAny_bind (m := oneArg "len" _) (wpAny_pure ?_)
  refine wpAny_bind (m := callSpecial? (.ref x) (Str.ofString "__len__")) (PySem.W.special_fn X I hs (beq_iff_eq.mp hf) (wpAny_mono h (fun r s' hr => ?_) fun _ _ y => y))
  cases r <;> first | exact hr.elim | skip
  rename_i n u
  obtain ⟨⟨h0, h1⟩, hq⟩ := hr
  refine wpAny_bind (wpAny_holding (wpAny_pure ?_))
  refine wpAny_bind (wpAny_letGo ?_)
  show wpAny _ _ (if n < 0 then _ else _) _ _ _
  rw [if_neg (by omega)]
  show wpAny _ _ (if n ≥ 2 ^ 63 then _ else _) _ _ _
  rw [if_neg (by omega)]
  exact wpAny_bind (wpAny_mkInt (wpAny_pure ⟨_, rfl, hq⟩))
theorem len_own {Q : Value → Shared → Prop} (X : K.In s.heap) (I : PySem.W.InstAt s.heap x ox C od) (hs : PySem.W.findIn K (.ref C) "__len__" = some (some (.ref f))) (hf : PySem.W.isFn K (.ref f) = true)
    (h : wpAny (model prog w) A.in1 (call (.ref f) [.ref x]) (PySem.W.LenBack Q) E s) : wpAny (model prog w) A (call (.builtin "len") [.ref x]) Q E s :=
  Calls.call_function_entry kind_len plain_len entry_len (args_len1 _) (len_body X I hs hf h)
def TruthBack (Q : Bool → Shared → Prop) (v : Value) (s' : Shared) : Prop := match v with
  | .int n _ => (0 ≤ n ∧ n < 2 ^ 63) ∧ Q (n != 0) { s' with toks := s'.toks + 1 }
  | _ => False
theorem truthy_own {Q : Bool → Shared → Prop} (X : K.In s.heap) (I : PySem.W.InstAt s.heap x ox C od) (hb : PySem.W.findIn K (.ref C) "__bool__" = some none) (hs : PySem.W.findIn K (.ref C) "__len__" = some (some (.ref f))) (hf : PySem.W.isFn K (.ref f) = true)
    (h : wpAny (model prog w) A.in1 (call (.ref f) [.ref x]) (TruthBack Q) E s) : wpAny (model prog w) A (truthy (.ref x)) Q E s := by
  have key : wpAny (model prog w) A (runValue (.builtin "len" ⟨[.ref x], []⟩)) (fun r s' => ∃ n t, r = .int n t ∧ Q (n != 0) s') E s := by
    refine wpAny_runValue (codeAny_builtin entry_len ?_)
    rw [Around.under_plainId plain_len _]
    refine wpAny_mono (len_body (Q := fun r s' => ∃ n t, r = .int n t ∧ Q (n != 0) s') X I hs hf (wpAny_mono h (fun v s' hv => ?_) fun _ _ e => e)) (fun fin s' h' => by obtain ⟨r, rfl, hq⟩ := h'; exact hq) fun _ _ e => e
    cases v <;> first | exact hv.elim | skip
    exact ⟨hv.1, _, _, rfl, hv.2⟩
  unfold truthy
  refine wpAny_bind (m := callSpecial? (.ref x) (Str.ofString "__bool__")) (wpAny_bind (wpAny_bind (I.type.here ((PySem.W.looks_findIn X hb).here (wpAny_pure ?_)))))
  refine wpAny_bind (wpAny_bind (I.type.here ((PySem.W.looks_findIn X hs).here ?_)))
  show wpAny _ _ (runValue (.builtin "len" ⟨[.ref x], []⟩) >>= _) _ _ _
  refine wpAny_bind (wpAny_mono key (fun r s' hr => ?_) fun _ _ e => e)
  obtain ⟨n, t, rfl, hq⟩ := hr
  exact wpAny_pure hq
theorem meets_bool_own {x : Addr} : MeetsIn prog w (Builtin.«bool.__new__» ⟨[.type "bool", .ref x], []⟩) (fun A R s => wpAny (model prog w) A.in1 (truthy (.ref x)) (fun b s' => R (.ok (.ret (.bool b))) s') (fun e s' => R (.error e) s') s) :=
  .of_wp fun A R s hs => by
    obtain ⟨hp, g, d, tk, os⟩ := s
    have f1 := F.conv_sub_bool
    repeat (any_goals (first | assumption | (with_reducible refine wpAny_mono hs (fun b s' h => ?_) (fun _ _ h => h)) | wp_step))
    all_goals first | exact ⟨_, rfl, h⟩ | exact h | skip
theorem call_bool_own {Q : Value → Shared → Prop} (h : wpAny (model prog w) A.in1.in1 (truthy (.ref x)) (fun b s' => Q (.bool b) s') E s) : wpAny (model prog w) A (call (.type "bool") [.ref x]) Q E s := by
  refine callType_meetsIn (Q₁ := fun obj s₁ => s₁.TypeIs obj "bool" ∧ Q obj s₁) F.called_bool (F.typeCall_bool_1 _) (F.newCall_bool_1 _) F.entry_bool_new F.entry_object_init meets_bool_own ?_ fun obj s₁ h₁ => ?_
  · exact wpAny_mono h (fun b s' hq => ⟨rfl, hq⟩) fun _ _ e => e
  · exact ⟨h₁.1, F.args_object_init_2 obj _, _, object_init_meets F.called_bool.init.lookup F.called_bool.made (by decide), ⟨h₁.1, rfl, h₁.2⟩⟩
end
end EV
set_option Elab.async false
set_option linter.all false
set_option autoImplicit false
set_option maxRecDepth 100000
set_option maxHeartbeats 1000000
/-! list(d.items()), sorted(d), len(o), bool(o), a class named -/
namespace EV
open PySem PySem.Spec PyProof.Rows L2
def itD (p : DK × D) : D := .tup [dkD p.1, p.2]
def litems : D → Store → Res Slot := fun d st => match d with
  | .ref n => match st[n]? with
    | some (.cell (.od false kvs)) => .ok (.ol (kvs.map itD)) st
    | _ => .stuck
  | _ => .stuck
section
variable {K : PySem.W.Frag} {mg : Str → Option Value}
theorem SOk.grow {g : G} {st : Store} {H H' : Hp} (S : SOk K mg g st H) (h : ∀ b o, H b = some o → H' b = some o) : SOk K mg g st H' ∧ Step g H [] g H' [] := by
  have hn : ∀ a, H a ≠ none → H' a = H a := fun a ha => by
    cases e : H a with
    | none => exact absurd e ha
    | some o => exact h a o e
  refine ⟨⟨fun a o e => h a o (S.kp a o e), S.nd, S.fr, fun a ha => by rw [hn a (S.th a ha)]; exact S.th a ha, S.ob.step (Ext.refl _) fun a ha => hn a (S.th a ha)⟩, ⟨Ext.refl _, fun a ha _ _ => hn a ha, fun a ha => by rw [hn a ha]; exact ha, fun a ha => .inl ha, fun a ha => .inl ha, fun a ha => nomatch ha⟩⟩
theorem items_rep {st : Store} {H : Hp} : ∀ {ts : List Addr} {zs : List (Key × V)} {kvs : List (DK × D)} {g : G}, SOk K mg g st H → RepD K mg g kvs (.dK zs) → Paired (fun (t : Addr) (q : Key × V) => H t = some (.tup [kV q.1, q.2])) ts zs →
    ∃ g', SOk K mg g' st H ∧ Step g H [] g' H [] ∧ RepL K mg g' (kvs.map itD) (ts.map V.ref)
  | _, _, _, g, S, .nilK, .nil => ⟨g, S, Step.refl, .nil⟩
  | _, _, _, g, S, .consK (x := x) (d := d) r t, .cons h p => by
    obtain ⟨g1, k1, S1, s1⟩ := S.keepT h
    obtain ⟨g2, S2, s2, r2⟩ := items_rep S1 (t.ext s1.ext) p
    refine ⟨g2, S2, s1.trans s2, .cons ?_ r2⟩
    exact .tup (.inl (s2.ext.kp _ _ k1)) (.cons dkD_rep (.cons ((r.ext s1.ext).ext s2.ext) .nil))
end
section
variable {X : Cx} {W : Wi} {e : Expr} {fe : En → Store → Res D} {p apos cpos pos : Pos}
theorem s_listItems (hc : X.calm = true) (he : EE X W e fe) (hg : Gl X "list") (hm : X.mg "list" = none) (hv : bootBuiltins "list" = some (.type "list") := by decide +kernel) (hbase : attributeBase e "items" X.env (eval e X.env) = eval e X.env := by rfl) (hline : (apos.endLine == cpos.line) = true := by rfl)
    (hs : starEach [.Call (.Attribute e "items" apos) [] [] cpos] X.env = (false, eval (.Call (.Attribute e "items" apos) [] [] cpos) X.env) :: starEach [] X.env := by rfl) :
    SE X W (.Call (.Name "list" p) [.Call (.Attribute e "items" apos) [] [] cpos] [] pos) (v1 litems fe) := by
  refine ⟨fun pins s σ H Q I hq => ?_⟩
  obtain ⟨g, env, st, os, hv', ho, hS, hq⟩ := hq
  refine (LiI.pe_listItems hc he hg hm hv hbase hline hs).run pins s σ H Q I ⟨g, env, st, os, hv', ho, hS, (Post.bindS hq).imp fun x H1 q => ?_⟩
  obtain ⟨g1, d, st1, s1, rd, S1, h1⟩ := q
  unfold litems at h1
  split at h1
  · next n =>
    split at h1
    · next kvs en =>
      obtain ⟨a, rfl, h3, h4⟩ := S1.cellAt rd en
      cases h4 with
      | @od _ _ _ o hH rr hd nd =>
        cases o <;> first | exact (hd : False).elim | skip
        next zs =>
        refine ⟨a, zs, rfl, hH, fun H' q ts kp hp ht hpt hl hpair => ?_⟩
        obtain ⟨S2, s2⟩ := S1.grow kp
        obtain ⟨g3, S3, s3, r3⟩ := items_rep S2 rr hpair
        have o2 : OsOk g1 H' [q] := ⟨by simp, fun b hb => by rw [List.mem_singleton.mp hb, hl]; exact True.intro, fun b hb => by rw [List.mem_singleton.mp hb]; exact S1.kpn hp, fun b hb => by rw [List.mem_singleton.mp hb]; exact S1.fpn hp⟩
        have t2 : Step g1 H1 [] g1 H' [q] := ⟨s2.ext, s2.fr, s2.th, s2.nf, s2.nk, fun b hb => by rw [List.mem_singleton.mp hb]; exact .inr hp⟩
        exact h1 (.ref q) g3 H' [q] (t2.trans (s3.frame [q])) (o2.step s3) (.ol hl r3) S3
    · exact h1.elim
  · exact h1.elim
end
def intK : List (DK × D) → Option (List Int)
  | [] => some []
  | (.k (.inl i), _) :: r => match intK r with
    | some ks => some (i :: ks)
    | none => none
  | _ => none
theorem intK_rep {K : PySem.W.Frag} {mg : Str → Option Value} {g : G} : ∀ {kvs : List (DK × D)} {zs : List (Key × V)} {ks : List Int}, RepD K mg g kvs (.dK zs) → intK kvs = some ks → zs.map (·.1) = ks.map Sum.inl
  | _, _, ks, .nilK, e => by
    cases e
    rfl
  | _, _, ks, .consK (x := x) (kvs := kvs) r t, e => by
    cases x with
    | inr s => exact nomatch e
    | inl i =>
      unfold intK at e
      split at e
      · next ks2 e2 =>
        cases e
        have := intK_rep t e2
        rw [List.map_cons, List.map_cons, this]
      · cases e
/-! a def that ends well, called anywhere -/
section
variable {X : Cx} {k : Nat} {f : Addr} {fd : FuncData} {ps : List Str} {F : List D → Store → Res D}
theorem run_well {A1 : Around} {E : Value → Shared → Prop} {pins : List (Addr × Obj)} {σ : L2.St} {H : Hp} {s : Shared} {Q : VK} {us : List Value} {vs : List V} {g : G} {ds : List D} {st st' : Store} {d : D} (FG : FnG X.prog X.w X.K X.mg X.base k f fd ps (spE X.K X.mg ps.length F)) (hr : Rm k A1)
    (he : Env0 X.prog X.w X.K X.mg X.base A1 X.stack s H) (hb : Binds X.K fd ps []) (I : L2.Inv X pins σ H s) (r : Vals vs us) (rd : RepL X.K X.mg g ds vs) (S : SOk X.K X.mg g st H) (hl : ds.length = ps.length) (hF : F ds st = .ok d st')
    (q : ∀ v g' H', Step g H [] g' H' [] → Rep X.K X.mg g' d v → SOk X.K X.mg g' st' H' → Q v H') :
    wpAny (model X.prog X.w) A1 (call (.ref f) us) (EP X pins σ Q) E s := by
  have hb' := hb s us I.kIn (by rw [List.append_nil, ← r.length, ← rd.length]; exact hl)
  rw [List.append_nil] at hb'
  refine wpAny_call (codeAny_mono (FG.run A1 X.stack s H ⟨us, []⟩ us vs Q (fun _ _ _ => False) hr he hb' r ⟨g, ds, st, hl, rd, S, ?_⟩) fun r s' hq => ?_)
  · rw [hF]
    exact q
  · cases r with
    | error e =>
      obtain ⟨_, _, _, _, _, _, _, _, _, _, _, _, z⟩ := hq
      exact z.elim
    | ok fl =>
      cases fl with
      | ret u => exact I.after hq
      | next => exact False.elim hq
      | brk => exact False.elim hq
      | cont => exact False.elim hq
theorem Rm.in1 {k : Nat} {A : Around} (r : Rm (k + 1) A) : Rm k A.in1 := ⟨r.room.in1, r.gd⟩
def lenMD (tb : DefTab) : List D → Store → Res D := fun xs st => match xs with
  | [.ref n] => match st[n]? with
    | some (.ins C fs) => match tabF tb C with
      | some (ps, F) => if ps.length = 1 then (match F [.ref n] st with
        | .ok (.int i) st' => if 0 ≤ i ∧ i < 2 ^ 63 then .ok (.int i) st' else .stuck
        | _ => .stuck) else .stuck
      | none => .stuck
    | _ => lenD xs st
  | _ => lenD xs st
def boolMD (tb : DefTab) : List D → Store → Res D := fun xs st => match xs with
  | [.ref n] => match st[n]? with
    | some (.ins C fs) => match tabF tb C with
      | some (ps, F) => if ps.length = 1 then (match F [.ref n] st with
        | .ok (.int i) st' => if 0 ≤ i ∧ i < 2 ^ 63 then .ok (.bl (i != 0)) st' else .stuck
        | _ => .stuck) else .stuck
      | none => .stuck
    | _ => .stuck
  | _ => .stuck
theorem b_lenM {tb : DefTab} (hT : MethTab X.prog X.w X.K X.mg X.base k "__len__" tb) (hr : Rm (k + 1) X.A) : OpL X (.builtin "len") (lenMD tb) := fun W pins s σ H g st xs vs us Q I S r ru q => by
  unfold lenMD at q
  split at q
  · next n =>
    split at q
    · next C fs en =>
      split at q
      · next ps F hF =>
        split at q
        · next hp =>
          split at q
          · next i st' hR =>
            split at q
            · next hi =>
              obtain ⟨v, rfl, rv⟩ := r.one
              obtain ⟨a, dx, c, zs, rfl, q1, q2, q3, q4, q5, q6⟩ := S.objI rv en
              obtain ⟨c', f, fd, mc, cl, hm, hb, FG⟩ := hT.at_ hF
              rw [q2] at mc
              cases mc
              obtain ⟨u, rfl, ru1⟩ := vals1 ru
              obtain rfl : u = Value.ref a := ru1
              obtain ⟨mA, O, _⟩ := ins_get I.hok q3
              obtain ⟨od, J, _⟩ := O.look
              refine len_own I.kIn J hm.at_ hm.fn (wpAny_mono (run_well (Q := fun v H' => v = .int i ∧ Q (.int i) H') FG hr.in1 I.env0.in1 hb I ru r S (by rw [hp]; rfl) hR fun v g' H' s' r' S' => ?_) (fun u s' hu => ?_) fun _ _ z => z)
              · cases r'
                exact ⟨rfl, q _ g' H' s' (.int _) S'⟩
              · obtain ⟨v, H', I', rv', rfl, hq⟩ := hu
                obtain ⟨t, rfl⟩ := rv'
                exact ⟨hi, .int i, H', I'.tok _, ⟨_, rfl⟩, hq⟩
            · exact q.elim
          · exact q.elim
        · exact q.elim
      · exact q.elim
    · exact b_len W pins s σ H g st _ vs us Q I S r ru q
  · exact b_len W pins s σ H g st _ vs us Q I S r ru q
theorem b_boolM {tb : DefTab} {tc : List Str} (hT : MethTab X.prog X.w X.K X.mg X.base k "__len__" tb) (hN : FldTab X.K X.mg "__bool__" tc) (hc : ∀ p ∈ tb, p.1 ∈ tc) (hr : Rm (k + 3) X.A) : OpL X (.type "bool") (boolMD tb) := fun W pins s σ H g st xs vs us Q I S r ru q => by
  unfold boolMD at q
  split at q
  · next n =>
    split at q
    · next C fs en =>
      split at q
      · next ps F hF =>
        split at q
        · next hp =>
          split at q
          · next i st' hR =>
            split at q
            · next hi =>
              obtain ⟨v, rfl, rv⟩ := r.one
              obtain ⟨a, dx, c, zs, rfl, q1, q2, q3, q4, q5, q6⟩ := S.objI rv en
              have hmem : C ∈ tc := by
                unfold tabF at hF
                cases hz : tb.find? (fun p => p.1 == C) with
                | none => rw [hz] at hF; cases hF
                | some p =>
                  have h1 := List.find?_some hz
                  have h2 := List.mem_of_find?_eq_some hz
                  have h3 : p.1 = C := by simpa using h1
                  rw [← h3]
                  exact hc p h2
              obtain ⟨c2, mc2, cl2, nb⟩ := hN C hmem
              obtain ⟨c', f, fd, mc, cl, hm, hb, FG⟩ := hT.at_ hF
              rw [q2] at mc mc2
              cases mc
              cases mc2
              obtain ⟨u, rfl, ru1⟩ := vals1 ru
              obtain rfl : u = Value.ref a := ru1
              obtain ⟨mA, O, _⟩ := ins_get I.hok q3
              obtain ⟨od, J, _⟩ := O.look
              refine call_bool_own (truthy_own I.kIn J nb hm.at_ hm.fn (wpAny_mono (run_well (Q := fun v H' => v = .int i ∧ Q (.bl (i != 0)) H') FG hr.in1.in1.in1 I.env0.in1.in1.in1 hb I ru r S (by rw [hp]; rfl) hR fun v g' H' s' r' S' => ?_) (fun u s' hu => ?_) fun _ _ z => z))
              · cases r'
                exact ⟨rfl, q _ g' H' s' (.bl _) S'⟩
              · obtain ⟨v, H', I', rv', rfl, hq⟩ := hu
                obtain ⟨t, rfl⟩ := rv'
                exact ⟨hi, .bl (i != 0), H', I'.tok _, rfl, hq⟩
            · exact q.elim
          · exact q.elim
        · exact q.elim
      · exact q.elim
    · exact q.elim
  · exact q.elim
end
section
variable {X : Cx} {W : Wi} {p : Pos}
/-- a class by its name -/
theorem e_clsN {n : Str} {tb : List (Str × Bool)} (h : IsxO X.K X.mg n tb) (hg : Gl X n) (hdb : (n == ("__debug__" : Str)) = false := by decide) : EE X W (.Name n p) (vC (.fn n)) := by
  obtain ⟨d, md, kd, _⟩ := h
  exact e_glob (v := .ref d) hg md rfl (fun _ => .fn md kd) hdb
end
section
variable {E : ErP} {st : Store} {P : D → Store → Prop} {PS : Slot → Store → Prop} {n : Nat} {kvs : List (DK × D)} {C : Str} {fs : List (Str × D)}
theorem go_litems (h : st[n]? = some (.cell (.od false kvs))) (q : PS (.ol (kvs.map itD)) st) : (litems (.ref n) st).holds E PS := by
  unfold litems
  simp only [h]
  exact q
theorem go_lenM {tb : DefTab} {ps : List Str} {F : List D → Store → Res D} (h : st[n]? = some (.ins C fs)) (ht : tabF tb C = some (ps, F)) (hp : ps.length = 1) (q : (F [.ref n] st).holds noE fun d st' => ∃ i : Int, d = .int i ∧ (0 ≤ i ∧ i < 2 ^ 63) ∧ P (.int i) st') : (lenMD tb [.ref n] st).holds E P := by
  obtain ⟨d, st', e, i, rfl, hi, q⟩ := Res.holds_ex q
  unfold lenMD
  simp only [h, ht, if_pos hp, e, if_pos hi]
  exact q
theorem go_boolM {tb : DefTab} {ps : List Str} {F : List D → Store → Res D} (h : st[n]? = some (.ins C fs)) (ht : tabF tb C = some (ps, F)) (hp : ps.length = 1) (q : (F [.ref n] st).holds noE fun d st' => ∃ i : Int, d = .int i ∧ (0 ≤ i ∧ i < 2 ^ 63) ∧ P (.bl (i != 0)) st') : (boolMD tb [.ref n] st).holds E P := by
  obtain ⟨d, st', e, i, rfl, hi, q⟩ := Res.holds_ex q
  unfold boolMD
  simp only [h, ht, if_pos hp, e, if_pos hi]
  exact q
theorem go_lenML {tb : DefTab} {ds : List D} (q : P (.int ds.length) st) : (lenMD tb [.lst ds] st).holds E P := q
theorem go_lenMT {tb : DefTab} {ds : List D} (q : P (.int ds.length) st) : (lenMD tb [.tup ds] st).holds E P := q
theorem go_lenMC {tb : DefTab} {xs : List Int} (q : P (.int xs.length) st) : (lenMD tb [.scr xs] st).holds E P := q
theorem go_lenMD {tb : DefTab} (h : st[n]? = some (.cell (.od false kvs))) (q : P (.int kvs.length) st) : (lenMD tb [.ref n] st).holds E P := by
  unfold lenMD
  simp only [h]
  exact go_lenRD h q
theorem go_isxO {m : Str} {tb : List (Str × Bool)} {b : Bool} {fs : List (Str × D)} (h : xlk tb C = some b) (q : P (.bl b) st) : (isxO m tb [.exc C fs, .fn m] st).holds E P := by
  unfold isxO
  simp only [if_true, h]
  exact q
theorem go_isxB {T : String} {tb : List (Str × Bool)} {b : Bool} {fs : List (Str × D)} (h : xlk tb C = some b) (q : P (.bl b) st) : (isxB T tb [.exc C fs, .ty T] st).holds E P := by
  unfold isxB
  simp only [if_true, h]
  exact q
end
end EV
set_option Elab.async false
set_option linter.all false
set_option autoImplicit false
set_option maxRecDepth 100000
set_option maxHeartbeats 1000000
/-! list(zip(..)) -/
namespace EV
open PySem PySem.Spec PyProof.Rows L2
end EV
set_option Elab.async false
set_option linter.all false
set_option autoImplicit false
set_option maxRecDepth 100000
set_option maxHeartbeats 1000000
/-! list(zip(..)), as data -/
namespace EV
open PySem PySem.Spec PyProof.Rows L2
end EV
set_option Elab.async false
set_option linter.all false
set_option autoImplicit false
set_option maxRecDepth 100000
set_option maxHeartbeats 1000000
/-! [x for x in d] of a live dict: it is locked for the while -/
namespace EV
open PySem PySem.Spec PyProof.Rows L2
/-- the dict is locked as its keys begin -/
def iKeysL (X : Cx) (td : TE) : TI := fun σ H R => td σ H fun x H1 => ∃ d kvs, x = .ref d ∧ H1 d = some (.dK kvs) ∧ ∀ od, (∀ o' u', X.H_0 d ≠ some (.frz o' u')) → R (Itk d od kvs) (upd H1 d (.frz od (.dK kvs)))
section
variable {X : Cx} {tg e : Expr} {td : TE}
theorem pi_keysL (he : PE X e td) : PI X tg e (iKeysL X td) := by
  refine ⟨fun pins s σ H R I h => ?_⟩
  refine thn (he.run pins s σ H _ I h) fun u s1 ⟨x, H1, I1, rx, d, kvs, ex, hd, q⟩ => ?_
  subst ex
  obtain rfl : u = Value.ref d := rx
  obtain ⟨od, I2⟩ := I1.lock hd True.intro
  have hd2 : upd H1 d (.frz od (.dK kvs)) d = some (.frz od (.dK kvs)) := upd_same
  obtain ⟨hs, hgd, hx, es, ep, vs, hdt, hsz, kv, hm⟩ := I2.frzK hd2
  refine iter_keys hs hgd hx hdt (pi_one (tk := s1.toks) I2 _ (turn_keys _ hdt) ⟨_, Heap.get?_push_size _ rfl, rfl, ?_⟩ (q od fun o' u' z => ?_))
  · rw [hsz] <;> rfl
  · have := I1.base.frzs _ _ _ z
    rw [hd] at this
    cases this
end
def tKeysL (td : TE) : TE := fun σ H Q => td σ H fun x H1 => ∃ d kvs, x = .ref d ∧ H1 d = some (.dK kvs) ∧ kvs.length ≤ 1000 ∧ ∀ D, H1 D = none → Q (.ref D) (upd H1 D (.lst (kvs.map fun p => kV p.1)))
section
variable {X : Cx}
theorem pe_keysL {elt tg iter : Expr} {scope : Scope} {own : List (Str × Nat)} {pos : Pos} {td : TE} {j : Nat} (hc : X.calm = true) (hN : X.N.Nodup) (hi : PE X iter td) (ok : BlkOk X.N X.env.scope scope own) (hj : j ∈ own.map (·.2)) (hjl : j < X.N.length)
    (hg : ∀ (s : Shared) (H : Hp) (C : Addr) (cl : List (Str × Addr)) (fp : List Addr), PG (X.blk s H scope (compEnvC scope cl C X.env) fp) tg (gName j))
    (he : ∀ (s : Shared) (H : Hp) (C : Addr) (cl : List (Str × Addr)) (fp : List Addr), PE (X.blk s H scope (compEnvC scope cl C X.env) fp) elt (tVar j)) (hs : ∀ x, foldedSetIterable iter X.env x = pure x := by intro _; rfl)
    (mono : ∀ σ H Q Q', td σ H Q → (∀ v H', Q v H' → Q' v H') → td σ H Q') :
    PE X (.ListComp elt [⟨tg, iter, [], 0⟩] scope pos) (tKeysL td) := by
  refine ⟨fun pins s σ H Q I h => ?_⟩
  have hlen := I.len
  have P := (pe_lc (tt := tYes) (pos := pos) hc hN (pi_keysL hi) ok hg (fun _ _ _ _ _ => pts_nil) he hs).run pins s σ H (fun v H' => ∃ D d kvs od H1, (∀ o' u', X.H_0 d ≠ some (.frz o' u')) ∧ v = .ref D ∧ H1 d = some (.dK kvs) ∧ H1 D = none ∧ H' = upd (upd H1 d (.frz od (.dK kvs))) D (.lst (kvs.map fun p => kV p.1)) ∧ Q (.ref D) (upd H1 D (.lst (kvs.map fun p => kV p.1)))) I ?_
  · refine thn P fun u s1 ⟨v, H1, I1, r1, D, d, kvs, od, H0, h0, ev, hd, hD, eH, q⟩ => ?_
    subst eH ev
    have ne : D ≠ d := fun z => by
      rw [z, hd] at hD
      cases hD
    have look : upd (upd H0 d (.frz od (.dK kvs))) D (.lst (kvs.map fun p => kV p.1)) d = some (.frz od (.dK kvs)) := by rw [upd_ne (Ne.symm ne), upd_same]
    have I2 := I1.unlock look h0
    · refine ⟨.ref D, _, I2, r1, ?_⟩
      have e : upd (upd (upd H0 d (.frz od (.dK kvs))) D (.lst (kvs.map fun p => kV p.1))) d (.dK kvs) = upd H0 D (.lst (kvs.map fun p => kV p.1)) := by
        funext b
        by_cases h1 : b = d
        · rw [h1, upd_same, upd_ne (Ne.symm ne), hd]
        · rw [upd_ne h1]
          by_cases h2 : b = D
          · rw [h2, upd_same, upd_same]
          · rw [upd_ne h2, upd_ne h2, upd_ne h1]
      rw [e]
      exact q
  · refine mono σ H _ _ h fun x H1 ⟨d, kvs, ex, hd, hl, q⟩ => ⟨d, kvs, ex, hd, fun od h0 D hD => ?_⟩
    have ne : D ≠ d := fun z => by
      rw [z, upd_same] at hD
      cases hD
    rw [upd_ne ne] at hD
    refine ⟨fun i m H' => i + m = kvs.length ∧ H' = upd (upd H1 d (.frz od (.dK kvs))) D (.lst ((kvs.take i).map fun p => kV p.1)), ⟨kvs.length, Nat.zero_add _, rfl⟩, fun i m H' ⟨e1, e2⟩ => ?_⟩
    subst e2
    have look : upd (upd H1 d (.frz od (.dK kvs))) D (.lst ((kvs.take i).map fun p => kV p.1)) d = some (.frz od (.dK kvs)) := by rw [upd_ne (Ne.symm ne), upd_same]
    by_cases hi : i < kvs.length
    · refine .inr ⟨⟨look, hi⟩, fun H' => H' = upd (upd H1 d (.frz od (.dK kvs))) D (.lst ((kvs.take (i + 1)).map fun p => kV p.1)), fun H' e => ⟨m - 1, by omega, by omega, e⟩, fun x H' ⟨e3, k, v, hk, ex⟩ => ?_⟩
      subst e3 ex
      have wl : (wipe σ (own.map (·.2))).length = σ.length := wipe_length ..
      show wipe ((wipe σ (own.map (·.2))).set j (some (kV k))) (own.map (·.2)) = wipe σ (own.map (·.2)) ∧ _
      refine ⟨(wipe_set hj).trans wipe_idem, ?_⟩
      refine ⟨kV k, List.getElem?_set_self (by rw [wl, hlen]; exact hjl), (kvs.take i).map fun p => kV p.1, upd_same, by rw [List.length_map, List.length_take, sizeLine_eq]; omega, ?_⟩
      rw [List.take_succ, hk, List.map_append]
      funext b
      by_cases hb : b = D
      · rw [hb, upd_same, upd_same]
        rfl
      · rw [upd_ne hb, upd_ne hb, upd_ne hb]
    · have e : i = kvs.length := by omega
      subst e
      refine .inl ⟨⟨look, Nat.le_refl _⟩, D, d, kvs, od, H1, h0, rfl, hd, hD, by rw [List.take_length], q D hD⟩
end
def vKeysL (fe : En → Store → Res D) : En → Store → Res Slot := fun env st => (fe env st).bind fun o st => match o with
  | .ref n => match st[n]? with
    | some (.cell (.od false kvs)) => if kvs.length ≤ 1000 then .ok (.ol (kvs.map fun p => dkD p.1)) st else .stuck
    | _ => .stuck
  | _ => .stuck
theorem keys_rep {K : PySem.W.Frag} {mg : Str → Option Value} {g : G} : ∀ {kvs : List (DK × D)} {zs : List (Key × V)}, RepD K mg g kvs (.dK zs) → RepL K mg g (kvs.map fun p => dkD p.1) (zs.map fun p => kV p.1) ∧ kvs.length = zs.length
  | _, _, .nilK => ⟨.nil, rfl⟩
  | _, _, .consK r t => ⟨.cons dkD_rep (keys_rep t).1, congrArg (· + 1) (keys_rep t).2⟩
section
variable {X : Cx} {W : Wi}
theorem s_keysL {elt tg iter : Expr} {scope sc0 : Scope} {N0 : List Str} {own : List (Str × Nat)} {spos : Pos} {fe : En → Store → Res D} {j : Nat} (hc : X.calm = true) (hN : X.N.Nodup) (hi : EE X W iter fe) (ok : blkC N0 sc0 scope own = true) (hN0 : X.N = N0) (hs0 : X.env.scope = sc0) (hj : j ∈ own.map (·.2)) (hjl : j < X.N.length)
    (hg : ∀ (s : Shared) (H : Hp) (C : Addr) (cl : List (Str × Addr)) (fp : List Addr), PG (X.blk s H scope (compEnvC scope cl C X.env) fp) tg (gName j))
    (he : ∀ (s : Shared) (H : Hp) (C : Addr) (cl : List (Str × Addr)) (fp : List Addr), PE (X.blk s H scope (compEnvC scope cl C X.env) fp) elt (tVar j)) (hs : ∀ x, foldedSetIterable iter X.env x = pure x := by intro _; rfl) :
    SE X W (.ListComp elt [⟨tg, iter, [], 0⟩] scope spos) (vKeysL fe) := by
  refine ⟨fun pins s σ H Q I h => (pe_keysL hc hN hi (blkOk_by (by rw [hN0, hs0]; exact ok)) hj hjl hg he hs (fun σ H Q Q' h f => ?_)).run pins s σ H Q I ?_⟩
  · obtain ⟨g, env, st, os, hv, ho, hS, h⟩ := h
    exact ⟨g, env, st, os, hv, ho, hS, h.imp f⟩
  · obtain ⟨g, env, st, os, hv, ho, hS, h⟩ := h
    refine ⟨g, env, st, os, hv, ho, hS, (Post.bindS h).imp fun x H1 q => ?_⟩
    obtain ⟨g1, o, st1, s1, rd, S1, h1⟩ := q
    split at h1
    · next n =>
      split at h1
      · next kvs en =>
        split at h1
        · next hl =>
          obtain ⟨a, rfl, h3, h4⟩ := S1.cellAt rd en
          cases h4 with
          | @od _ _ _ o hH rr hd nd =>
            cases o <;> first | exact (hd : False).elim | skip
            next zs =>
            obtain ⟨k1, k2⟩ := keys_rep rr
            exact ⟨a, zs, rfl, hH, by rw [← k2]; exact hl, fun D hD => h1.newLst S1 k1 hD⟩
        · exact h1.elim
      · exact h1.elim
    · exact h1.elim
end
theorem go_keysL {E : ErP} {fe : En → Store → Res D} {env : En} {st : Store} {PS : Slot → Store → Prop} {n : Nat} {kvs : List (DK × D)} (q : (fe env st).holds E fun o s => o = .ref n ∧ s[n]? = some (.cell (.od false kvs)) ∧ kvs.length ≤ 1000 ∧ PS (.ol (kvs.map fun p => dkD p.1)) s) : (vKeysL fe env st).holds E PS := by
  unfold vKeysL
  rw [Res.holds_bind]
  refine q.imp fun o s h => ?_
  obtain ⟨rfl, e, hl, hP⟩ := h
  simp only [e]
  rw [if_pos hl]
  exact hP
end EV
set_option Elab.async false
set_option linter.all false
set_option autoImplicit false
set_option maxRecDepth 100000
set_option maxHeartbeats 1000000
namespace EV
open PySem PySem.Spec PyProof.Rows L2
theorem walkGE {l : PySem.W.OpenLaw} {n k : Nat} {q : Program} {loose : List Str} {XP : (Str → Option Value) → Heap → Prop} {YP : World → Heap → Prop} {d : DefRec} {T : World → PySem.W.Frag → Prop} {x : Str} {F0 : List D → Store → Res D}
    (hn : l.most = some n) (hn2 : n ≤ sizeLine) (hdf : d.params.defaults = []) (hr : Rm k callerA)
    (hY : ∀ (w : World) (h : Heap), YP w h → ∃ K : PySem.W.Frag, K.In h ∧ T w K)
    (F : ∀ (w : World) (mg : Str → Option Value) (h : Heap) (K : PySem.W.Frag), T w K → K.In h → h.Ns mainGlobals mg →
      ∀ base : Heap, K.In base → base.Ns mainGlobals mg → DefOk l.prog w K mg base d.name k [x] F0)
    (hF : ∀ ns : List Int, ns.length ≤ n → ∃ st, F0 [.scr ns] [] = .ok (.bl true) st) :
    PySem.W.WalkO q loose XP YP l.row.toRowW d [] (fun f vs => PySem.call f vs) := by
  refine Att.attach_call hn hdf fun w s₀ s₁ mg mb fa o pm cd doc a vs ns G Y ho hd hcd hmg hobj hints hlen hg => ?_
  obtain ⟨K, KX, c⟩ := hY w _ Y
  exact law_callG KX G.T.g G.T.b G.T.builtins G.T.nolimit hg hobj hints (Nat.le_trans hlen hn2) hr hmg (F w mg _ K c KX G.T.g) (hF ns hlen)
end EV
set_option Elab.async false
set_option linter.all false
set_option autoImplicit false
set_option maxRecDepth 100000
set_option maxHeartbeats 1000000
/-! code that is called within an except suite: ends of iterators there, unpacking, comprehensions over a list, defs -/
namespace EV
open PySem PySem.Spec PyProof.Rows L2
section
variable {prog : Program} {w : World} {A : Around} {E : Value → Shared → Prop} {s : Shared} {x1 it l : Addr} {i : Nat} {items : Array Value} {Q : Option Value → Shared → Prop}
/-- what is known of the heap once the iterator at it has told its end, x1 being handled -/
theorem hot_kept {h : Heap} {f g : Obj → Obj} {o1 o2 : Obj} {b : Addr} {o : Obj} (hb : b ≠ it) (e : h.get? b = some o) :
    ((((h.update it f).push o1).push o2).update ((h.update it f).push o1).objs.size g).get? b = some o := by
  have e1 : (((h.update it f).push o1).push o2).get? b = some o := Heap.get?_push_of_some _ (Heap.get?_push_of_some _ ((Heap.get?_update_other _ _ (Ne.symm hb)).trans e))
  have e0 : ((h.update it f).push o1).get? b = some o := Heap.get?_push_of_some _ ((Heap.get?_update_other _ _ (Ne.symm hb)).trans e)
  rw [Heap.get?_update_other _ _ (Nat.ne_of_gt (Heap.lt_size e0))]
  exact e1
theorem hot_list_end (hot : HotX.HotAt A x1 s.heap) (hne : x1 ≠ it) (hit : s.heap.IsListIter it l i) (hl : s.heap.IsList l items) (hx : items[i]? = none)
    (hQ : ∀ h', Heap.ExtBut it s.heap h' → Q none { s with heap := h' }) : wpAny (model prog w) A (pyNext (.ref it)) Q E s := by
  obtain ⟨hh, oh, vh, gh, dh, ch⟩ := hot
  obtain ⟨oi, gi, ci, di⟩ := id hit
  obtain ⟨ol, gl, _, nl, dl⟩ := hl
  unfold pyNext
  refine wpAny_bind (wpAny_attempt (wpAny_callSpecial?_slot (name := Str.ofString "__next__") hit.typeIs slot_listiter_next (wpAny_call_entry slot_listiter_next hit.typeIs entry_listiter_next ?_ (args_listiter_next _))))
  show wpAny _ _ (field (.ref it) 0 >>= _) _ _ s
  refine wpAny_bind (wpAny_field gi di (x := .ref l) rfl ?_)
  show wpAny _ _ (if (Value.ref l == Value.none) = true then _ else _) _ _ s
  rw [if_neg (by simp)]
  show wpAny _ _ (field (.ref it) 1 >>= _) _ _ s
  refine wpAny_bind (wpAny_field gi di (x := .int i 0) rfl ?_)
  show wpAny _ _ (seqItems? (.ref l) >>= _) _ _ s
  refine wpAny_bind (wpAny_seqItems gl dl ?_)
  simp only [Int.toNat_natCast, hx]
  refine wpAny_bind (wpAny_rule (wpAny_bind (wpAny_setField gi di (by simp) ?_)))
  show wpAny _ _ (newExc (.type "StopIteration") [] >>= _) _ _ _
  refine wpAny_bind ?_
  simp only [newExc, newTuple]
  refine wpAny_bind (wpAny_newObj_type ?_ (by size_fits))
  refine wpAny_bind (m := firstArgMember _ _) (wpAny_of_eq (a := Value.none) (by first | rfl | (simp only [firstArgMember]; rfl)) ?_)
  refine wpAny_newObj_type ?_ (by size_fits)
  refine HotX.raiseNew_hot (x1 := x1) ⟨hh, oh, vh, ?_, dh, ch⟩ ?_ (Heap.get?_push_size _ rfl) rfl (by first | (simp; done) | (simp; omega) | (simp only [Array.size_append]; simp; omega)) ?_
  · exact Heap.get?_push_of_some _ (Heap.get?_push_of_some _ ((Heap.get?_update_other _ _ (Ne.symm hne)).trans gh))
  · exact Nat.ne_of_lt (Heap.lt_size (Heap.get?_push_of_some _ ((Heap.get?_update_other _ _ (Ne.symm hne)).trans gh)))
  refine wpAny_bind (wpAny_isInstance (T := "StopIteration") (b := true) ⟨_, Heap.get?_update_self _ (Heap.get?_push_size _ rfl) rfl, rfl⟩ isSubtype_stop ?_)
  exact wpAny_pure (hQ _ fun b o hb e => hot_kept hb e)
theorem hot_tuple_end {t : Addr} (hot : HotX.HotAt A x1 s.heap) (hne : x1 ≠ it) (hit : IsTupIter s.heap it t i) (ht : IsTup s.heap t items) (hx : items[i]? = none)
    (hQ : ∀ h', Heap.ExtBut it s.heap h' → Q none { s with heap := h' }) : wpAny (model prog w) A (pyNext (.ref it)) Q E s := by
  obtain ⟨hh, oh, vh, gh, dh, ch⟩ := hot
  obtain ⟨oi, gi, ci, di⟩ := id hit
  obtain ⟨ol, gl, _, nl, dl⟩ := ht
  unfold pyNext
  refine wpAny_bind (wpAny_attempt (wpAny_callSpecial?_slot (name := Str.ofString "__next__") hit.typeIs slot_tupleiter_next (wpAny_call_entry slot_tupleiter_next hit.typeIs entry_tupleiter_next ?_ (args_tupleiter_next _))))
  show wpAny _ _ (field (.ref it) 0 >>= _) _ _ s
  refine wpAny_bind (wpAny_field gi di (x := .ref t) rfl ?_)
  show wpAny _ _ (if (Value.ref t == Value.none) = true then _ else _) _ _ s
  rw [if_neg (by simp)]
  show wpAny _ _ (field (.ref it) 1 >>= _) _ _ s
  refine wpAny_bind (wpAny_field gi di (x := .int i 0) rfl ?_)
  show wpAny _ _ (seqItems? (.ref t) >>= _) _ _ s
  refine wpAny_bind (wpAny_seqItems gl dl ?_)
  simp only [Int.toNat_natCast, hx]
  refine wpAny_bind (wpAny_rule (wpAny_bind (wpAny_setField gi di (by simp) ?_)))
  show wpAny _ _ (newExc (.type "StopIteration") [] >>= _) _ _ _
  refine wpAny_bind ?_
  simp only [newExc, newTuple]
  refine wpAny_bind (wpAny_newObj_type ?_ (by size_fits))
  refine wpAny_bind (m := firstArgMember _ _) (wpAny_of_eq (a := Value.none) (by first | rfl | (simp only [firstArgMember]; rfl)) ?_)
  refine wpAny_newObj_type ?_ (by size_fits)
  refine HotX.raiseNew_hot (x1 := x1) ⟨hh, oh, vh, ?_, dh, ch⟩ ?_ (Heap.get?_push_size _ rfl) rfl (by first | (simp; done) | (simp; omega) | (simp only [Array.size_append]; simp; omega)) ?_
  · exact Heap.get?_push_of_some _ (Heap.get?_push_of_some _ ((Heap.get?_update_other _ _ (Ne.symm hne)).trans gh))
  · exact Nat.ne_of_lt (Heap.lt_size (Heap.get?_push_of_some _ ((Heap.get?_update_other _ _ (Ne.symm hne)).trans gh)))
  refine wpAny_bind (wpAny_isInstance (T := "StopIteration") (b := true) ⟨_, Heap.get?_update_self _ (Heap.get?_push_size _ rfl) rfl, rfl⟩ isSubtype_stop ?_)
  exact wpAny_pure (hQ _ fun b o hb e => hot_kept hb e)
end
section
variable {prog : Program} {w : World} {A : Around} {E : Value → Shared → Prop} {s : Shared} {x1 t : Addr} {items : Array Value}
theorem hot_items {Q : List Value → Shared → Prop} (hot : HotX.HotAt A x1 s.heap) (ht : IsTup s.heap t items)
    (hQ : ∀ h', Heap.ExtBut s.heap.objs.size s.heap h' → Q items.toList { s with heap := h' }) : wpAny (model prog w) A (unpackItems (.ref t) items.size none) Q E s := by
  have tne : t ≠ s.heap.objs.size := by
    obtain ⟨o, ho, _⟩ := ht
    exact Nat.ne_of_lt (Heap.lt_size ho)
  obtain ⟨hh, oh, vh, gh, dh, ch⟩ := hot
  have xne : x1 ≠ s.heap.objs.size := Nat.ne_of_lt (Heap.lt_size gh)
  unfold unpackItems
  refine wpAny_bind ?_
  unfold notIterableAtAll
  refine wpAny_bind (wpAny_specialOf ht.typeIs slot_tuple_iter.lookup (wpAny_pure ?_))
  simp only [Bool.false_eq_true, if_false]
  refine wpAny_bind (wpAny_holding (iter_tuple ht (wpAny_bind (wpAny_holding (draw_tuple tne items.size 0 _ _ ⟨_, Heap.get?_push_size _ rfl, rfl, rfl⟩ (ht.push _) (by omega) fun h1 it1 sb1 => ?_)))))
  rw [List.drop_zero, List.take_of_length_le (by simp), if_neg (by simp)]
  have ht1 : IsTup h1 t items := (ht.push _).extBut sb1.extBut tne
  have gh1 := sb1.extBut x1 oh xne (Heap.get?_push_of_some _ gh)
  refine wpAny_bind (wpAny_holding (hot_tuple_end ⟨hh, oh, vh, gh1, dh, ch⟩ xne it1 ht1 (by simp) fun h2 e2 => ?_))
  simp only [Option.isSome_none, Bool.false_eq_true, if_false]
  exact wpAny_pure (hQ h2 fun b o hb e => e2 b o hb (sb1.extBut b o hb (Heap.get?_push_of_some _ e)))
theorem hot_assign {env : Env} {elts : List Expr} {k} {pos : Pos} {Q : Unit → Shared → Prop} (hot : HotX.HotAt A x1 s.heap) (ht : IsTup s.heap t items) (hn : (assignEach elts env).length = items.size) (hst : (assignEach elts env).findIdx? (·.1) = none)
    (h : ∀ h', Heap.ExtBut s.heap.objs.size s.heap h' → wpAny (model prog w) A (assignInOrder ((assignEach elts env).map (·.2)) items.toList) Q E { s with heap := h' }) : wpAny (model prog w) A (assign (.Tuple elts k pos) env (.ref t)) Q E s := by
  rw [assign_Tuple]
  refine wpAny_bind (wpAny_standAt ?_)
  unfold unpack
  rw [hn, hst]
  exact wpAny_bind (wpAny_holding (hot_items hot ht h))
end
section
variable {X : Cx} {pos : Pos}
theorem pg_tupH {es : List Expr} {k : Nat} {t : TGs} {n : Nat} (hot : HotB X) (h : PGs X es t) (hn : (assignEach es X.env).length = n := by rfl) (hst : (assignEach es X.env).findIdx? (·.1) = none := by rfl) : PG X (.Tuple es k pos) (gTup X.K n t) := by
  refine ⟨fun pins s σ H v u Q I r ⟨a, xs, ev, hq, hl, hw⟩ => ?_⟩
  subst ev
  cases r
  obtain ⟨its, rv, ht, hz⟩ := I.tuple hq
  obtain ⟨x1, hx⟩ := hot.at I
  exact hot_assign hx ht (by simp [hn, ← hl, rv.length]) hst fun h' e => h.run pins _ σ H xs _ Q (I.kept (t' := s.toks) fun b o g => e b o (Nat.ne_of_lt (Heap.lt_size g)) g) (by simpa using rv) hw
theorem pat_tH {es : List Expr} {j : Nat} {ps : List Pat} (hot : HotB X) (h : PGs X es (Pat.tgs X.K ps)) (hn : (assignEach es X.env).length = ps.length := by rfl) (hst : (assignEach es X.env).findIdx? (·.1) = none := by rfl) : PG X (.Tuple es j pos) (Pat.tg X.K (.t ps)) := by
  unfold Pat.tg
  exact pg_tupH hot h hn hst
/-- a list that is walked -/
def seqB : D → Store → Res (List D) := fun d st => match d with
  | .lst ds => .ok ds st
  | _ => .stuck
structure IB (X : Cx) (W : Wi) (e : Expr) (f : En → Store → Res (List D)) : Prop where
  run : ∀ (pins : List (Addr × Obj)) (s : Shared) (σ : L2.St) (H : Hp) (R : It → Hp → Prop), L2.Inv X pins σ H s → tI X.K X.mg W f σ H R →
    wpAny (model X.prog X.w) X.A (eval e X.env) (fun v s1 => ∃ (a : Addr) (its : Array Value) (H1 : Hp), v = .ref a ∧ L2.Inv X pins σ H1 s1 ∧ s1.heap.IsList a its ∧ R (Itl X.K a) H1) X.xe s
theorem i_seqB {W : Wi} {e : Expr} {fe : En → Store → Res D} (he : EE X W e fe) : IB X W e (v1 seqB fe) := by
  refine ⟨fun pins s σ H R I h => ?_⟩
  obtain ⟨g, env, st, os, hv, ho, hS, h⟩ := h
  refine thn (he.run pins s σ H _ I ⟨g, env, st, os, hv, ho, hS, PostI.bind h⟩) fun v s1 ⟨x, H1, I1, r1, q1⟩ => ?_
  obtain ⟨g1, d, st1, s1', rd, S1, h1⟩ := q1
  cases d with
  | lst ds =>
    cases rd with
    | @lst a vs _ hx rl =>
      cases r1
      obtain ⟨its, rv, p, hz⟩ := I1.list (SqL.of (S1.kp _ _ hx))
      exact ⟨a, _, H1, rfl, I1, p.isList, h1 _ g1 H1 Step.refl S1 (walks_list hx rl)⟩
  | _ => exact (h1 : False).elim
/-- the next item of a list -/
theorem list_item {a it : Addr} {i : Nat} {pins : List (Addr × Obj)} {s : Shared} {σ : L2.St} {H : Hp} {tg : Expr} {E : Value → Shared → Prop} (I : L2.Inv X pins σ H s) (hf : FpOk X pins H it) (st : s.heap.IsListIter it a i) (hg : (Itl X.K a).go i H) :
    wpAny (model X.prog X.w) X.A (pyNext (.ref it)) (fun r s1 => ∃ u, r = some u ∧
      wpAny (model X.prog X.w) X.A (letOwnedTupleGo tg (.ref it) u) (fun _ s2 => ∃ x, L2.Inv X pins σ H s2 ∧ RelV x u ∧ (Itl X.K a).yld i H x H ∧ s2.heap.IsListIter it a (i + 1)) E s1) E s := by
  obtain ⟨xs, x, hq, hx⟩ := hg
  obtain ⟨its, rv, p, hz⟩ := I.list hq
  obtain ⟨u, hu, ru⟩ := rv.get hx
  obtain ⟨f0, f1, f2, f3, f4, f5⟩ := hf
  refine wpAny_pyNext_list_item st p.isList (x := u) (by simpa using hu) fun h' st' sb => ?_
  obtain ⟨o, e, c, d⟩ := id st'
  exact ⟨u, rfl, go_of (s := { s with heap := h' }) e c d (by decide) ⟨x, I.turned (t' := s.toks) (fun b o hb e => (sb.2 b hb).trans e) f0 f1 f3 f4 f5, ru, ⟨rfl, fun ys hy => by rw [I.list_inj hy hq]; exact hx⟩, st'⟩⟩
theorem list_done {a it : Addr} {i : Nat} {pins : List (Addr × Obj)} {s : Shared} {σ : L2.St} {H : Hp} {E : Value → Shared → Prop} (hot : HotB X) (I : L2.Inv X pins σ H s) (hf : FpOk X pins H it) (st : s.heap.IsListIter it a i) (hg : (Itl X.K a).stop i H) :
    wpAny (model X.prog X.w) X.A (pyNext (.ref it)) (fun r s1 => r = none ∧ L2.Inv X pins σ H s1) E s := by
  obtain ⟨xs, hq, hx⟩ := hg
  obtain ⟨its, rv, p, hz⟩ := I.list hq
  have hl := rv.length
  obtain ⟨y, oy, uy, vy, hh, hy, dy, cy⟩ := hot.now I
  obtain ⟨f0, f1, f2, f3, f4, f5⟩ := hf
  exact hot_list_end ⟨hh, oy, vy, (I.hok y _ hy).1, dy, cy⟩ (ne_of_none hy f0) st p.isList (by simp; omega) fun h' eb => ⟨rfl, I.turned (t' := s.toks) (fun b o hb e => eb b o hb e) f0 f1 f3 f4 f5⟩
end
/-! ### [.. for .. in a list] there -/
section
variable {X : Cx} {W : Wi} {elt tg iter : Expr} {ifs : List Expr} {scope : Scope} {own : List (Str × Nat)} {fi : En → Store → Res (List D)} {g : TG} {tt : TT} {te : TE}
/-- a comprehension's block of X -/
abbrev HBlk (X : Cx) (scope : Scope) (φ : Cx → Prop) : Prop := ∀ (s : Shared) (H : Hp) (C : Addr) (cl : List (Str × Addr)) (fp : List Addr), HotB (X.blk s H scope (compEnvC scope cl C X.env) fp) → φ (X.blk s H scope (compEnvC scope cl C X.env) fp)
theorem lc_hot {pins : List (Addr × Obj)} {s : Shared} {σ : L2.St} {H : Hp} {Q : VK} {pos pos' : Pos} {use : Option (Value → Sem Unit)} {Qf : Value → Shared → Prop} (hot : HotB X) (hN : X.N.Nodup) (I : L2.Inv X pins σ H s) (hi : IB X W iter fi) (ok : BlkOk X.N X.env.scope scope own)
    (hg : HBlk X scope fun Y => PG Y tg g) (ht : HBlk X scope fun Y => PTs Y ifs tt) (he : HBlk X scope fun Y => PE Y elt te) (hs : ∀ x, foldedSetIterable iter X.env x = pure x) (h : tLc (tI X.K X.mg W fi) g tt te (own.map (·.2)) σ H Q)
    (hEnd : ∀ D C s' m H', L2.Inv X pins σ H' s' → Q (.ref D) H' → s'.heap.Ns C m → FpOk X pins H' C → compPost (model X.prog X.w) X.A X.xe use Qf (.ref D) C (.ok .next) s') :
    wpAny (model X.prog X.w) X.A (comprehension (.ListComp elt [⟨tg, iter, ifs, 0⟩] scope pos) scope X.env pos' (newList []) false (eval iter X.env) use) Qf X.xe s := by
  have closed : ∀ y ∈ scope.names, y.2 = .free → ∃ c, X.env.cells.lookup y.1 = some c := fun y hy e => (ok.free y hy e).elim (fun k => I.ok.has _ (.inl k)) fun k => I.ok.has _ (.inr k)
  refine wpAny_comprehension_free (use := use) rfl hs (closure_ok closed) ok.kind (fun y hy e => by rw [ok.uniq y hy, e]) (thn (hi.run pins s σ H _ I h) fun xv s1 ⟨a, its, H2, ev, I1, hl, q⟩ => ?_)
  subst ev
  refine wpAny_pyIter_list hl ?_
  have I2 : L2.Inv X pins σ H2 { s1 with heap := s1.heap.push { cls := .type "list_iterator", data := .fields #[.ref a, .int 0 0] } } := I1.kept (t' := s1.toks) fun b o e => Heap.get?_push_of_some _ e
  have F2 : FpOk X pins H2 s1.heap.objs.size := I1.fpOk (Nat.le_refl _) (I1.hok.fresh (Nat.le_refl _))
  have st2 : (s1.heap.push { cls := .type "list_iterator", data := .fields #[.ref a, .int 0 0] }).IsListIter s1.heap.objs.size a 0 := ⟨_, Heap.get?_push_size _ rfl, rfl, rfl⟩
  generalize hit : s1.heap.objs.size = it at F2 st2 ⊢
  generalize hh2 : s1.heap.push { cls := .type "list_iterator", data := .fields #[.ref a, .int 0 0] } = h2 at I2 st2 ⊢
  have T := turn_list (P := X.prog) (w := X.w) (K := X.K) (tg := tg) a it
  refine wpAny_newObj_type (newEnv_comp ?_) (Nat.zero_le _)
  show codeAny _ _ (.compStart (.ListComp elt [⟨tg, iter, ifs, 0⟩] scope pos) 0 (.ref it) (.ref h2.objs.size) _) (compPost (model X.prog X.w) X.A X.xe use Qf (.ref h2.objs.size) _) _
  generalize hD : h2.objs.size = D
  have nD : H2 D = none := I2.hok.fresh (Nat.le_of_eq hD)
  obtain ⟨Wn, ⟨m0, w0⟩, turn⟩ := q D nD
  have itD : it ≠ D := fun z => by
    obtain ⟨o, e, _⟩ := st2
    have := Heap.lt_size e
    rw [z, ← hD] at this
    exact absurd this (Nat.lt_irrefl _)
  have I3 : L2.Inv X pins σ (upd H2 D (.lst [])) { s1 with heap := h2.push { cls := .type "list", data := .seq ([] : List Value).toArray } } := by
    refine I2.laid (t' := s1.toks) (fun b o e => Heap.get?_push_of_some _ e) (Nat.le_of_eq hD) ⟨Nat.zero_le _, [], 0, .nil, ?_⟩
    rw [← hD]
    exact Heap.get?_push_size _ rfl
  have st3 : (h2.push { cls := .type "list", data := .seq ([] : List Value).toArray }).IsListIter it a 0 := T.keep _ _ _ st2 fun b _ o e => Heap.get?_push_of_some _ e
  have F3 : FpOk X pins (upd H2 D (.lst [])) it := ⟨(upd_ne itD).trans F2.1, F2.2⟩
  have lt3 : it < (h2.push { cls := .type "list", data := .seq ([] : List Value).toArray }).objs.size := by
    obtain ⟨o, e, _⟩ := st3
    exact Heap.lt_size e
  generalize hh3 : h2.push { cls := .type "list", data := .seq ([] : List Value).toArray } = h3 at I3 st3 lt3 ⊢
  generalize hH3 : upd H2 D (.lst []) = H3 at I3 F3 w0
  have one : ∀ b ∈ [it], FpOk X pins H3 b ∧ b < h3.objs.size := fun b hb => by
    have e : b = it := by simpa using hb
    rw [e]
    exact ⟨F3, lt3⟩
  have I4 := block_start I3 ok hN one
  obtain ⟨ya, yo, yu, yv, y1, y2, y3, y4⟩ := hot.now I3
  have hotB : ∀ {scope : Scope} {ce : Env} {fp : List Addr}, HotB (X.blk { s1 with heap := h3 } H3 scope ce fp) := ⟨ya, yo, yu, yv, y1, y2, y3, y4⟩
  have pg := hg { s1 with heap := h3 } H3 h3.objs.size (cellsFrom (h3.objs.size + 1) scope.names (cloFrom X.env.cells scope.names [])) [it] hotB
  have pt := ht { s1 with heap := h3 } H3 h3.objs.size (cellsFrom (h3.objs.size + 1) scope.names (cloFrom X.env.cells scope.names [])) [it] hotB
  have pe := he { s1 with heap := h3 } H3 h3.objs.size (cellsFrom (h3.objs.size + 1) scope.names (cloFrom X.env.cells scope.names [])) [it] hotB
  show codeAny _ _ (.compStart (.ListComp elt [⟨tg, iter, ifs, 0⟩] scope pos) 0 (.ref it) (.ref D) (compEnvC scope (cellsFrom (h3.objs.size + 1) scope.names (cloFrom X.env.cells scope.names [])) h3.objs.size X.env)) (compPost (model X.prog X.w) X.A X.xe use Qf (.ref D) h3.objs.size)
    { s1 with heap := pushCells (h3.push { cls := .type "dict", data := .dict #[] }) scope.names }
  have st4 : (pushCells (h3.push { cls := .type "dict", data := .dict #[] }) scope.names).IsListIter it a 0 := T.keep _ _ _ st3 fun b _ o e => pushCells_keeps _ _ _ _ (Heap.get?_push_of_some _ e)
  generalize hce : compEnvC scope (cellsFrom (h3.objs.size + 1) scope.names (cloFrom X.env.cells scope.names [])) h3.objs.size X.env = ce at I4 pg pt pe ⊢
  have cL : ce.locals = h3.objs.size := by subst hce; rfl
  generalize pushCells (h3.push { cls := .type "dict", data := .dict #[] }) scope.names = h4 at I4 st4 ⊢
  have inB : ∀ {σ' : L2.St} {H' : Hp} {s' : Shared}, L2.Inv (X.blk { s1 with heap := h3 } H3 scope ce [it]) [] σ' H' s' → H' it = none → FpOk (X.blk { s1 with heap := h3 } H3 scope ce [it]) [] H' it := fun {σ' H' s'} I' n =>
    ⟨n, (I'.ok.exf it (by simp)).1, I'.ok.exfs it (by simp), .inl (List.mem_singleton.mpr rfl), fun x c e => (I'.ok.exf it (by simp)).2 x c e, fun p hp => absurd (show p ∈ ([] : List (Addr × Obj)) ++ [] from hp) (by simp)⟩
  have loop : codeAny (model X.prog X.w) X.A (.compLoop (.ListComp elt [⟨tg, iter, ifs, 0⟩] scope pos) 0 (.ref it) (.ref D) ce) (compPost (model X.prog X.w) X.A X.xe use Qf (.ref D) h3.objs.size) { s1 with heap := h4 } := by
    refine compLoop_any (fun n s' => ∃ i H', L2.Inv (X.blk { s1 with heap := h3 } H3 scope ce [it]) [] (L2.wipe σ (own.map (·.2))) H' s' ∧ s'.heap.IsListIter it a i ∧ H' it = none ∧ Wn i n H') ?_ m0 ⟨0, H3, I4, st4, F3.1, w0⟩
    rintro n s5 ⟨i, H5, I5, st5, n5, w5⟩
    rcases turn i n H5 w5 with ⟨stop, fin⟩ | ⟨more, Nx, hNx, step⟩
    · refine thnF (list_done (X := X.blk { s1 with heap := h3 } H3 scope ce [it]) (E := fun _ _ => False) hotB I5 (inB I5 n5) st5 stop) fun r s6 ⟨hr, I6⟩ => ?_
      subst hr
      -- the def's context again
      have back : L2.Inv X pins σ H5 s6 := I3.call' (ch := [it]) I6.os I6.base I6.hok I6.bare fun b hb => by
        have e : b = it := by simpa using hb
        rw [e]
        exact ⟨F3.2.2.2.1, F3.2.1, F3.2.2.2.2.1, F3.2.2.2.2.2⟩
      have nC : H5 h3.objs.size = none := by
        have z : H5 ce.locals = none := I6.free
        rw [cL] at z
        exact z
      obtain ⟨m, hn, _⟩ := I6.loc
      have hn : s6.heap.Ns ce.locals m := hn
      rw [cL] at hn
      exact hEnd D h3.objs.size s6 m H5 back fin hn (I3.fpOk (Nat.le_refl _) nC)
    · refine thnF (list_item (X := X.blk { s1 with heap := h3 } H3 scope ce [it]) (tg := tg) (E := fun _ _ => False) I5 (inB I5 n5) st5 more) fun r s6 ⟨u, hr, h6⟩ => ?_
      subst hr
      refine thnF h6 fun _ s7 ⟨x, I7, r7, y7, st7⟩ => ?_
      have obj7 : ∀ b ∈ [it], ∃ o, s7.heap.get? b = some o ∧ ∀ v, o.data ≠ .cell v := T.obj _ _ st7
      have at7 : ∀ b ∈ [it], FpOk (X.blk { s1 with heap := h3 } H3 scope ce [it]) [] H5 b := fun b hb => by
        have e : b = it := by simpa using hb
        rw [e]
        exact inB I7 n5
      refine thnF (pg.run _ s7 _ H5 x u _ (I7.pinned at7 obj7) r7 (step x H5 y7)) fun _ s8 ⟨σ8, H8, I8, hw8, q8⟩ => ?_
      refine thnF (pt.run _ s8 σ8 H8 _ I8 q8) fun b s9 ⟨H9, I9, q9⟩ => ?_
      have again : ∀ {s' : Shared} {H' : Hp}, L2.Inv (X.blk { s1 with heap := h3 } H3 scope ce [it]) ([] ++ pinsAt [it] s7.heap) σ8 H' s' → Nx H' →
          ∃ m, m < n ∧ ∃ i H', L2.Inv (X.blk { s1 with heap := h3 } H3 scope ce [it]) [] (L2.wipe σ (own.map (·.2))) H' s' ∧ s'.heap.IsListIter it a i ∧ H' it = none ∧ Wn i m H' := fun {s' H'} I' nx => by
        obtain ⟨m', hm, w'⟩ := hNx H' nx
        obtain ⟨o7, e7, _⟩ := obj7 it (by simp)
        have kept : ∀ b ∈ [it], ∀ o, s7.heap.get? b = some o → s'.heap.get? b = some o := fun b hb o e => (I'.pin (b, o) (List.mem_append_right _ (List.mem_append_right _ (mem_pinsAt hb e)))).1
        refine ⟨m', hm, i + 1, H', (I'.unpinned (pins := [])).weak (by rw [← hw8, wipe_length]) (fun j v e => ?_), T.keep _ _ _ st7 kept, (I'.pin (it, o7) (List.mem_append_right _ (List.mem_append_right _ (mem_pinsAt (by simp) e7)))).2.1, w'⟩
        rw [← hw8] at e
        exact (wipe_some e).1
      cases b with
      | false =>
        rw [if_neg Bool.false_ne_true] at q9
        exact again I9 q9
      | true =>
        rw [if_pos rfl] at q9
        refine thnF (pe.run _ s9 σ8 H9 _ I9 q9) fun z s10 ⟨yv, H10, I10, r10, acc, hD10, hz10, nx⟩ => ?_
        exact app_ok (X := X.blk { s1 with heap := h3 } H3 scope ce [it]) I10 hD10 hz10 r10 fun s11 I11 => again I11 nx
  exact codeAny_compStart_list loop (T.self X.A 0 _ _ _ st4 loop)
/-- y = [..], the name a local, what is made is frozen -/
theorem st_setLcFH (i : Nat) {y : Str} {py pos spos : Pos} {p : Pat} {tt : En → Store → Res Bool} {te : En → Store → Res D} (hot : HotB X) (hN : X.N.Nodup) (hy : X.N[i]? = some y) (hyl : X.env.scope.names.lookup y = some .local)
    (hsw : swapsWith (.ListComp elt [⟨tg, iter, ifs, 0⟩] scope pos) (some (.Name y py)) spos.line X.env = pure true) (hi : IB X W iter fi) (ok : BlkOk X.N X.env.scope scope own) (hp : ∀ i ∈ p.slots, i ∈ own.map (·.2))
    (hg : HBlk X scope fun Y => PG Y tg (Pat.tg X.K p)) (ht : HBlk X scope fun Y => PTs Y ifs (tT X.K X.mg W0 tt)) (he : HBlk X scope fun Y => EE Y W0 elt te) (hs : ∀ x, foldedSetIterable iter X.env x = pure x := by intro _; rfl) :
    ST X W (.Assign [.Name y py] (.ListComp elt [⟨tg, iter, ifs, 0⟩] scope pos) spos) (sSet i (vFrz (vLc fi p (own.map (·.2)) tt te))) := by
  refine ⟨fun pins s σ H D I h => ?_⟩
  have h := lc_reads (elt := elt) (tg := tg) (iter := iter) (ifs := ifs) (scope := scope) hp (frz_reads (set_reads h))
  rw [exec_Assign_Name_used _ _ _ _ hsw]
  refine wpAny_bind (wpAny_standAt (wpAny_bind ?_))
  show wpAny _ X.A (do let _ ← comprehension (.ListComp elt [⟨tg, iter, ifs, 0⟩] scope pos) scope X.env (firstIterPos [⟨tg, iter, ifs, 0⟩] pos) (newList []) false (eval iter X.env) (some (assign (.Name y py) X.env))) _ _ s
  refine wpAny_bind (thn (lc_hot (Qf := fun _ s' => SP X pins D .next s') hot hN I hi ok hg ht he hs h fun L C s' m H' I' q hn f => ?_) fun _ s' hq => wpAny_pure (wpAny_pure hq))
  show wpAny _ _ (assign (.Name y py) X.env (.ref L)) _ _ _
  obtain ⟨f0, f1, f2, f3, f4, f5⟩ := f
  refine wpAny_assign_Name (store_ok2 (v := V.ref L) I' hN hy (.inl hyl) rfl (fun s2 I2 ⟨b, sb, hb⟩ => ?_) (.inr hyl))
  have cb : C ≠ b := hb.elim (fun z => by rw [z]; exact f1) fun z e => f4 y b z e.symm
  exact ⟨m, hn.sameBut sb cb, fun h3 sb3 => ⟨_, H', I2.turned (t' := s2.toks) (fun b o hb e => (sb3.2 b hb).trans e) f0 f1 f3 f4 f5, q⟩⟩
theorem st_setLcF1H (i : Nat) {y : Str} {py : Pos} {c : Expr} {sc0 : Scope} {N0 : List Str} {pos spos : Pos} {p : Pat} {tt : En → Store → Res Bool} {te : En → Store → Res D} (hot : HotB X) (hN : X.N.Nodup) (hy : X.N[i]? = some y) (hyl : X.env.scope.names.lookup y = some .local)
    (hsw : swapsWith (.ListComp elt [⟨tg, iter, [c], 0⟩] scope pos) (some (.Name y py)) spos.line X.env = pure true) (hi : IB X W iter fi) (ok : blkC N0 sc0 scope own = true) (hN0 : X.N = N0) (hs0 : X.env.scope = sc0) (hp : ∀ i ∈ p.slots, i ∈ own.map (·.2))
    (hg : ∀ (s : Shared) (H : Hp) (C : Addr) (cl : List (Str × Addr)) (fp : List Addr), HotB (X.blk s H scope (compEnvC scope cl C X.env) fp) → PG (X.blk s H scope (compEnvC scope cl C X.env) fp) tg (Pat.tg X.K p))
    (ht : ∀ (s : Shared) (H : Hp) (C : Addr) (cl : List (Str × Addr)) (fp : List Addr), BE (X.blk s H scope (compEnvC scope cl C X.env) fp) W0 c tt)
    (he : ∀ (s : Shared) (H : Hp) (C : Addr) (cl : List (Str × Addr)) (fp : List Addr), EE (X.blk s H scope (compEnvC scope cl C X.env) fp) W0 elt te) (hs : ∀ x, foldedSetIterable iter X.env x = pure x := by intro _; rfl) :
    ST X W (.Assign [.Name y py] (.ListComp elt [⟨tg, iter, [c], 0⟩] scope pos) spos) (sSet i (vFrz (vLc fi p (own.map (·.2)) tt te))) :=
  st_setLcFH i hot hN hy hyl hsw hi (blkOk_by (by rw [hN0, hs0]; exact ok)) hp hg (fun s H C cl fp _ => ts_one ht s H C cl fp) (fun s H C cl fp _ => he s H C cl fp) hs
end
/-! ### operators there -/
section
variable {X : Cx} {W : Wi} {a b : Expr} {pos : Pos} {fa fb : En → Store → Res D}
theorem o_eqH {k : Nat} (hr : L2H.RoomH k X.A) : Op2 X (compareOp .Eq) eqD := fun W pins s σ H g st x y vx vy u w Q I S rx ry ru rw q => by
  unfold eqD at q
  split at q
  · next b e =>
    rcases eq_cases S rx ry e with ⟨h1, h2⟩ | ⟨d, d', h1, h2, h3, h4, h5⟩
    · exact scal_eq I ru rw h1 h2 (q.here (.bl _) S)
    · exact op_eqD (by have := hr.un; omega) pins s σ H _ _ u w Q I ru rw ⟨d, d', h1, h2, h3, h4, by rw [h5]; exact q.here (.bl _) S⟩
  · exact q.elim
theorem e_ixH {k : Nat} (hr : L2H.RoomH k X.A) (ha : EE X W a fa) (hb : EE X W b fb) (hs : PlainIx b) : EE X W (.Subscript a b pos) (v2 ixD fa fb) :=
  ⟨fun pins s σ H Q I h => Subscript_ (two ha hb I h fun g st x y v u s2 vx vy H2 I2 S rx ry r1 r2 q => by
    unfold ixD at q
    split at q
    · next kvs hkv =>
      split at q
      · next k hk =>
        split at q
        · next d hd =>
          obtain ⟨p, o, rfl, hp, rdd⟩ := S.dictAt rx hkv
          obtain ⟨ov, h1⟩ := S.dget ry hk hp rdd (.inl (fun z => by rw [z] at hd; cases hd))
          rcases h1 with ⟨h1, h2, h3⟩ | h1
          · obtain ⟨w, rfl, rw'⟩ := h2 d hd
            cases r1
            exact tail_any (dict_typeIs I2 h1) PySem.F.slot_dict_getitem.lookup (d_getItem (by have := hr.un; omega) I2 h1 r2 fun w' s3 I3 r3 => ⟨w, H2, I3, r3, q.here rw' S⟩) (hs _ _)
          · rw [h1] at hd; cases hd
        · exact q.elim
      · exact q.elim
    split at q
    · next i =>
      cases ry
      split at q
      · next d hd =>
        cases x with
        | lst ds =>
          cases rx with
          | lst hx rl =>
            obtain ⟨z, h1, h2⟩ := atI_rep rl hd
            exact ix_list a b pins s2 σ H2 _ _ v u Q I2 r1 r2 ⟨_, _, _, z, rfl, rfl, SqL.of (S.kp _ _ hx), h1, q.here h2 S⟩ (hs _ _)
        | tup ds =>
          cases rx with
          | tup hx rl =>
            obtain ⟨z, h1, h2⟩ := atI_rep rl hd
            exact ix_tup a b pins s2 σ H2 _ _ v u Q I2 r1 r2 ⟨_, _, _, z, rfl, rfl, S.sqT hx, h1, q.here h2 S⟩ (hs _ _)
        | scr ns =>
          cases rx with
          | scr hx =>
            have hd' : (atI ns i).map D.int = some d := hd
            cases hz : atI ns i with
            | none => rw [hz] at hd'; cases hd'
            | some z =>
              rw [hz] at hd'
              cases hd'
              have h1 : atI (ns.map V.int) i = some (.int z) := by
                unfold atI at hz ⊢
                rw [List.length_map]
                cases q2 : ixN ns.length i with
                | none => rw [q2] at hz; cases hz
                | some j =>
                  rw [q2] at hz
                  show (ns.map V.int)[j]? = _
                  rw [List.getElem?_map, (show ns[j]? = some z from hz)]
                  rfl
              exact ix_list a b pins s2 σ H2 _ _ v u Q I2 r1 r2 ⟨_, _, _, _, rfl, rfl, S.sqL hx, h1, q.here (.int z) S⟩ (hs _ _)
        | str z =>
          cases rx
          have hd' : (if z.length ≤ sizeLine then (atI z.cps.toList i).map fun c => D.str ⟨#[c]⟩ else none) = some d := hd
          split at hd'
          · next hz =>
            cases hq : atI z.cps.toList i with
            | none => rw [hq] at hd'; cases hd'
            | some c =>
              rw [hq] at hd'
              cases hd'
              exact ix_str a b pins s2 σ H2 _ _ v u Q I2 r1 r2 ⟨_, _, c, rfl, rfl, hz, hq, q.here (.str _) S⟩ (hs _ _)
          · cases hd'
        | ref n =>
          have hd' : (match st[n]? with | some (.cell (.ol ds)) => atI ds i | _ => none) = some d := hd
          split at hd'
          · next ds he =>
            obtain ⟨p, vs, rfl, _, h3, h4⟩ := S.objL rx he
            obtain ⟨z, h1, h2⟩ := atI_rep h4 hd'
            exact ix_list a b pins s2 σ H2 _ _ v u Q I2 r1 r2 ⟨_, _, _, z, rfl, rfl, SqL.of h3, h1, q.here h2 S⟩ (hs _ _)
          · cases hd'
        | _ => exact nomatch hd
      · exact q.elim
    · exact q.elim)⟩
end
/-! ### a def that is called there -/
def HotE (A : Around) (H : Hp) : Prop := ∃ (a : Addr) (o : Obj) (u : HO) (vs : Array Value), A.handled = some (.ref a) ∧ H a = some (.frz o u) ∧ o.data = .fields vs ∧ vs[2]? = some .none
/-- it tells what F tells; no error leaves it -/
structure FnGH (P : Program) (w : World) (K : PySem.W.Frag) (mg : Str → Option Value) (base : Heap) (k : Nat) (f : Addr) (fd : FuncData) (ps : List Str) (F : List D → Store → Res D) : Prop where
  run : ∀ (A : Around) (outer : List Env) (s : Shared) (H : Hp) (args : Args) (us : List Value) (vs : List V) (Q : VK) (g : G) (ds : List D) (st : Store), L2H.RoomH k A → HotE A H → Env0 P w K mg base A outer s H → BindsTo s fd args (ps.zip us) → Vals vs us →
    ds.length = ps.length → RepL K mg g ds vs → SOk K mg g st H → (match F ds st with
      | .ok d st' => ∀ v g' H', Step g H [] g' H' [] → Rep K mg g' d v → SOk K mg g' st' H' → Q v H'
      | _ => False) →
    codeAny (model P w) A (.call (.ref f) args) (CR (L2N.CX P w) outer P w H s Q (fun _ _ _ => False)) s
def DefOkH (P : Program) (w : World) (K : PySem.W.Frag) (mg : Str → Option Value) (base : Heap) (x : Str) (k : Nat) (ps : List Str) (F : List D → Store → Res D) : Prop :=
  ∃ f fd, mg x = some (.ref f) ∧ PySem.W.keepIn K (.ref f) = true ∧ Binds K fd ps [] ∧ FnGH P w K mg base k f fd ps F
theorem DefOkH.mono {P : Program} {w : World} {K : PySem.W.Frag} {mg : Str → Option Value} {base : Heap} {x : Str} {j k : Nat} {ps : List Str} {F : List D → Store → Res D} (h : DefOkH P w K mg base x j ps F) (hk : j ≤ k) : DefOkH P w K mg base x k ps F := by
  obtain ⟨f, fd, a, b, c, d⟩ := h
  exact ⟨f, fd, a, b, c, ⟨fun A outer s H args us vs Q g ds st hr => d.run A outer s H args us vs Q g ds st (hr.mono hk)⟩⟩
section
variable {P : Program} {w : World} {K : PySem.W.Frag} {mg : Str → Option Value} {base : Heap}
theorem hdef_ok {x : Str} {st : Stmt} {N ps : List Str} {k m : Nat} {body : En → Store → ResS} (T : TopDef K mg x st ps) (S : FnScope N ps (defScope st)) (hN : N.length = ps.length + m)
    (hbody : ∀ (f : Addr) (cdv : Value) (A : Around) (outer : List Env) (s : Shared) (H : Hp) (p : Addr × Obj), L2H.RoomH k (A.deeper (envOfC x (defScope st) s.heap.objs.size f cdv)) →
      HotB (L2H.cxH (L2N.CX P w) P w K mg base N x (defScope st) f cdv A outer s H (fun _ _ _ => False) p) →
      STs (L2H.cxH (L2N.CX P w) P w K mg base N x (defScope st) f cdv A outer s H (fun _ _ _ => False) p) W0 (defBody st) body) : DefOkH P w K mg base x (k + 1) ps (fnF ps.length m body) := by
  obtain ⟨f, fd, hm, F, b⟩ := T.ex
  refine ⟨f, fd, hm, F.kp, b, ⟨fun A outer s H args us vs Q g ds st0 hr hot e0 hb r hl rd hS h => ?_⟩⟩
  obtain ⟨oc, od, kV, doc, pm, an, cdv, ct, osl, rfl, lk, hcd⟩ := F.ex
  have KX : K.In s.heap := e0.mod.kin.keeps fun b o e => (e0.bs b o e).1
  have lim : s.heap.NoLimit := e0.mod.nolimit.keeps fun b o e => (e0.bs b o e).1
  have hv : vs.length = ps.length := by rw [← rd.length]; exact hl
  have kinds : ∀ y ∈ ps.zip us, (defScope st).names.lookup y.1 = some .local ∨ ((defScope st).names.lookup y.1 = some .cell ∧ ((cellsFrom (s.heap.objs.size + 1) (defScope st).names []).lookup y.1).isSome = true) := fun ⟨n, v⟩ hy =>
    (S.par n (List.of_mem_zip hy).1).elim .inl fun q => .inr ⟨q, PySem.W.cellsFrom_some _ _ _ (.inl q)⟩
  refine codeAny_call_function hr.depth (KX _ _ lk) rfl S.co S.gen rfl (PySem.W.codeRec_of KX hcd) (hb _ _ _ _ ?_)
  refine wpAny_newFunctionEnv_cells S.kind kinds fun env he s1 x1 => ?_
  subst he
  refine ⟨lim.keeps x1.toInCall.keep, codeAny_func ?_⟩
  have lb := e0.mod.kin _ _ lk
  obtain ⟨p0, pin⟩ : ∃ p0, L2H.PinOk outer H s p0 := ⟨(f, _), KX _ _ lk, (e0.bs _ _ lb).2, fun z => absurd ((e0.funs.mem z).1.symm.trans lb) (fun q => nomatch q), fun v z => nomatch z⟩
  have I : L2.Inv (L2H.cxH (L2N.CX P w) P w K mg base N x (defScope st) f cdv A outer s H (fun _ _ _ => False) p0) [] (L2.start N vs) H s1 := L2H.inv_startH S pin e0 hv r x1
  have hB : HotB (L2H.cxH (L2N.CX P w) P w K mg base N x (defScope st) f cdv A outer s H (fun _ _ _ => False) p0) := hot
  have hm' : N.length - vs.length = m := by rw [hv]; omega
  have start : tS K mg W0 body { nx := fun _ H' => Q .non H', rt := Q } (L2.start N vs) H := by
    refine ⟨g, ds.map Slot.vl ++ List.replicate m Slot.un, st0, [], by unfold L2.start; rw [hm']; exact env_start rd, osOk_nil, hS, ?_⟩
    unfold fnF at h
    rw [if_pos hl] at h
    revert h
    generalize body (ds.map Slot.vl ++ List.replicate m Slot.un) st0 = q
    intro h
    cases q with
    | nx env st1 => exact fun σ' g' H' os' s1 e1 o1 S1 => h .non g' H' s1.drop .non S1
    | rt d st1 => exact fun v g' H' s1 r1 S1 => h v g' H' s1 r1 S1
    | er e env st1 => exact (h : False).elim
    | br _ _ => exact (h : False).elim
    | ct _ _ => exact (h : False).elim
    | stuck => exact (h : False).elim
  refine wpAny_mono ((hbody f cdv A outer s H _ (hr.deeper _) hB).run [] s1 (L2.start N vs) H _ I start) (fun fl s' hs => ?_) fun e s' hs => hs
  have fin : ∀ {σ' : L2.St} {H' : Hp} {v : V} {u : Value}, L2.Inv (L2H.cxH (L2N.CX P w) P w K mg base N x (defScope st) f cdv A outer s H (fun _ _ _ => False) p0) [] σ' H' s' → RelV v u → Q v H' → CE outer P w H s Q u s' :=
    fun {σ' H' v u} J rv q => ⟨v, H', J.os, J.bare, J.base, J.hok, rv, q⟩
  cases fl with
  | ret u =>
    obtain ⟨v, σ', H', J, rv, q⟩ := hs
    exact fin J rv q
  | next =>
    obtain ⟨σ', H', J, q⟩ := hs
    exact fin (v := V.non) (u := Value.none) J rfl q
  | brk =>
    obtain ⟨_, _, _, q⟩ := hs
    exact False.elim q
  | cont =>
    obtain ⟨_, _, _, q⟩ := hs
    exact False.elim q
end
theorem rmH {A : Around} {k : Nat} {v : Option Value} (hr : Rm k A) : L2H.RoomH k (A.mark v) := ⟨hr.room.dp, hr.room.un⟩
def fnH (n : Nat) (F : List D → Store → Res D) : List D → Store → Res D := fun ds st => if ds.length = n then (match F ds st with
  | .ok d st' => .ok d st'
  | _ => .stuck) else .stuck
section
variable {X : Cx} {W : Wi} {k j : Nat} {ps : List Str} {F : List D → Store → Res D} {x : Str} {p pos : Pos} {e : Expr} {es : List Expr} {fa : En → Store → Res (List D)}
/-- f(e, ..) within a suite -/
theorem e_defH (h : DefOkH X.prog X.w X.K X.mg X.base x j ps F) (hr : L2H.RoomH k X.A) (hj : j ≤ k) (hot : HotB X) (hg : Gl X x) (ha : AE X W (e :: es) fa) (hdb : (x == ("__debug__" : Str)) = false := by decide) (he : starEach (e :: es) X.env = (false, eval e X.env) :: starEach es X.env := by rfl)
    (hpl : (backTo pos (starEach es X.env)).any (·.1) = false := by rfl) : EE X W (.Call (.Name x p) (e :: es) [] pos) (vA (fnH ps.length F) fa) := by
  obtain ⟨f, fd, hm, hk, hb, FG⟩ := h
  refine ⟨fun pins s σ H Q I ⟨g, env, st, os, hv, ho, hS, h⟩ => ?_⟩
  refine wpAny_Call_Name_kw (ld_glob I hg hm ?_ hdb)
  refine PySem.W.callWith_K (h₀ := X.base) I.ok.mod.kin hk (thn (ha.run pos pins s σ H _ I ⟨g, env, st, os, hv, ho, hS, Post.bind h⟩) fun us s1 ⟨vs, H1, I1, r, q⟩ => ⟨I1.kIn, ?_⟩) he hpl
  obtain ⟨g1, ds, st1, s1', rd, S1, h1⟩ := q
  unfold fnH at h1
  split at h1
  · next hl =>
    have hb' := hb s1 us I1.kIn (by rw [List.append_nil, ← r.length, ← rd.length]; exact hl)
    rw [List.append_nil] at hb'
    refine wpAny_call (codeAny_mono (FG.run X.A X.stack s1 H1 ⟨us, []⟩ us vs Q g1 ds st1 (hr.mono hj) (hot.now I1) I1.env0 hb' r hl rd S1 ?_) fun q s' hq => ?_)
    · revert h1
      generalize F ds st1 = q
      intro h1
      cases q with
      | ok d st' => exact h1
      | er e st' => exact (h1 : False).elim
      | stuck => exact (h1 : False).elim
    · cases q with
      | error er =>
        obtain ⟨_, _, _, _, _, _, _, _, _, _, _, _, z⟩ := hq
        exact z.elim
      | ok fl =>
        cases fl with
        | ret u => exact I1.after hq
        | next => exact False.elim hq
        | brk => exact False.elim hq
        | cont => exact False.elim hq
  · exact h1.elim
end
/-! ### for the calculus -/
section
variable {E : ErP} {P : D → Store → Prop} {st : Store} {n : Nat} {F : List D → Store → Res D} {ds : List D}
theorem go_fnH (hl : ds.length = n) (q : (F ds st).holds (fun _ _ => False) P) : (fnH n F ds st).holds E P := by
  unfold fnH
  rw [if_pos hl]
  revert q
  generalize F ds st = r
  intro q
  cases r with
  | ok d st' => exact q
  | er _ _ => exact (q : False).elim
  | stuck => exact (q : False).elim
theorem go_seqB {P : List D → Store → Prop} {xs : List D} (q : P xs st) : (seqB (.lst xs) st).holds E P := q
end
end EV
set_option Elab.async false
set_option linter.all false
set_option autoImplicit false
set_option maxRecDepth 100000
set_option maxHeartbeats 1000000
/-! sorted(d) of a live dict with any number of whole keys; d != {} -/
namespace EV
open PySem PySem.Spec PyProof.Rows L2
section
variable {X : Cx}
theorem call_sortedDX (hcalm : X.calm = true) : CallR X (.builtin "sorted") (fun xs H Q => ∃ (a : Addr) (kvs : List (Key × V)) (ks : List Int), xs = [.ref a] ∧ Rd H a (.dK kvs) ∧ kvs.map (·.1) = ks.map Sum.inl ∧
    ∀ (ys : List Int) (p : Addr), ys.Perm ks → ys.Pairwise (· ≤ ·) → H p = none → Q (.ref p) (upd H p (.lst (ys.map V.int)))) := by
  intro pins s σ H xs us Q I r q
  obtain ⟨a, kvs, ks, ex, hd, hks, q⟩ := q
  subst ex
  obtain ⟨u, eu, rx⟩ := vals1 r
  subst eu
  cases rx
  obtain ⟨hz, lo, vs, rel, dd⟩ := dk_rd I.hok hd
  obtain ⟨ep, hat⟩ := dd.dictAt
  have hkeys : vs.map (·.1) = ks.map Sum.inl := rel.keys.symm.trans hks
  have hl : vs.length = ks.length := by
    have e := congrArg List.length hkeys
    rw [List.length_map, List.length_map] at e
    exact e
  have h16 : vs.length ≤ sizeLine := by rw [← rel.length]; exact hz
  refine Calls.call_function_entry PyProof.Rows.kind_sorted PyProof.Rows.plain_sorted PyProof.Rows.entry_sorted (PyProof.Rows.args_sorted1 _) ?_
  unfold Builtin.«sorted»
  refine wpAny_bind (m := checkCount "sorted" 1 1 _) (wpAny_pure ?_)
  refine wpAny_bind (PySem.W.kdu_collect (A := X.A.in1) (PySem.W.kdl_dict (knd := mixKind X.prog X.w) (kvs := vs) (ep := ep) lo) (I.ok.hd hcalm) hat h16 fun h' tk acc hk hacc => ?_)
  have hal : acc.toList.length = ks.length := by rw [Array.length_toList, hacc.1, hl]
  have hS : IntsAre acc.toList ks := ints_each hal fun j v e => by
    obtain ⟨k, x, e1, e2⟩ := hacc.2 j v (by rw [← Array.getElem?_toList]; exact e)
    have e3 : (vs.map (·.1))[j]? = some k := by rw [List.getElem?_map, e1]; rfl
    rw [hkeys, List.getElem?_map] at e3
    cases e4 : ks[j]? with
    | none => rw [e4] at e3; cases e3
    | some y =>
      rw [e4] at e3
      have e5 : Sum.inl y = k := Option.some.inj e3
      subst e5
      rcases keyIs_shape (show keyIs (Sum.inl y) v = true from e2) with ⟨i, t, ek, ev⟩ | ⟨z, t, ek, ev⟩
      · cases ek
        exact ⟨y, t, rfl, ev⟩
      · cases ek
  have I1 : L2.Inv X pins σ H { s with heap := h', toks := tk } := I.kept hk
  have hsz : acc.toList.length ≤ sizeLine := by rw [hal, ← hl]; exact h16
  refine wpAny_bind (wpAny_newList ?_ (by exact hsz))
  have hoL : (h'.push (seqObj "list" acc.toList.toArray 0)).get? h'.objs.size = some (seqObj "list" acc.toList.toArray 0) := Heap.get?_push_size _ rfl
  show wpAny _ _ _ _ _ { s with heap := h'.push (seqObj "list" acc.toList.toArray 0), toks := tk }
  refine wpAny_bind (wpAny_holding (wpAny_call_entry PyProof.Rows.slot_list_sort ⟨_, hoL, rfl⟩ PyProof.Rows.entry_list_sort
    (SrtO.list_sort_ord (s := { s with heap := h'.push (seqObj "list" acc.toList.toArray 0), toks := tk }) SrtO.swo_int hoL hsz (fun h2 => SrtO.ints_sortable hS h2) fun out h1 h2 => ⟨_, rfl, ?_⟩) (PyProof.Rows.args_list_sort _)))
  obtain ⟨k1, k2, k3⟩ := SrtO.ints_out hS h1 h2
  obtain ⟨e', he'⟩ := PyProof.Rows.sortedHeap_at (vs := acc.toList) (out := out.toArray) hoL
  have hlen : ((out.map SrtO.iv).map V.int).length ≤ sizeLine := by
    rw [List.length_map, k2.length_eq, ← hal]
    exact hsz
  refine wpAny_pure ⟨_, rfl, .ref h'.objs.size, upd H h'.objs.size (.lst ((out.map SrtO.iv).map V.int)), I1.laid (t' := tk) (fun b u e => ?_) (Nat.le_refl _)
    (show ObjOk X.prog X.w _ _ _ (.lst ((out.map SrtO.iv).map V.int)) from ⟨hlen, out, e', vals_of_ints k1, he'⟩), rfl, q _ _ k2 k3 (I1.hok.fresh (Nat.le_refl _))⟩
  have hb : b < h'.objs.size := Heap.lt_size e
  rw [PyProof.Rows.sortedHeap_old (Nat.ne_of_lt hb) (by rw [size_push']; exact Nat.lt_succ_of_lt hb)]
  exact Heap.get?_push_of_some _ e
def sortedY : List D → Store → Res Slot := fun xs st => match xs with
  | [.ref n] => match st[n]? with
    | some (.cell (.od false kvs)) => match intK kvs with
      | some ks => .ok (.ol ((srt ks).map .int)) st
      | none => .stuck
    | _ => .stuck
  | _ => .stuck
theorem b_sortedY (hc : X.calm = true) : OpLS X (.builtin "sorted") sortedY := fun W pins s σ H g st xs vs us Q I S r ru q => by
  unfold sortedY at q
  split at q
  · next n =>
    split at q
    · next kvs en =>
      split at q
      · next ks ek =>
        obtain ⟨v, rfl, rv⟩ := r.one
        obtain ⟨a, rfl, h3, h4⟩ := S.cellAt rv en
        cases h4 with
        | @od _ _ _ o hH rr hd nd =>
          cases o <;> first | exact (hd : False).elim | skip
          next zs =>
          refine call_sortedDX hc pins s σ H _ us Q I ru ⟨a, zs, ks, rfl, .inl hH, intK_rep rr ek, fun ys p hp hw hz => ?_⟩
          rw [srt_uniq hp hw]
          exact q.newLst S (rep_ints _) hz
      · exact q.elim
    · exact q.elim
  · exact q.elim
def neE : D → D → Store → Res D := fun x y st => match x, y with
  | .ref n, .ref m => match st[n]?, st[m]? with
    | some (.cell (.od false kvs)), some (.cell (.od false [])) => .ok (.bl (!kvs.isEmpty)) st
    | _, _ => .stuck
  | _, _ => .stuck
theorem repD_emp {K : PySem.W.Frag} {mg : Str → Option Value} {g : G} {kvs : List (DK × D)} {zs : List (Key × V)} (r : RepD K mg g kvs (.dK zs)) : zs.isEmpty = kvs.isEmpty := by
  cases r <;> rfl
theorem o_neE {k : Nat} (hr : Rm k X.A) : Op2 X (compareOp .NotEq) neE := fun W pins s σ H g st x y vx vy u w Q I S rx ry ru rw q => by
  unfold neE at q
  split at q
  · next n m =>
    split at q
    · next kvs e1 e2 =>
      obtain ⟨a, rfl, h3, h4⟩ := S.cellAt rx e1
      obtain ⟨b, rfl, h5, h6⟩ := S.cellAt ry e2
      cases h4 with
      | @od _ _ _ o hH rr hd nd =>
        cases o <;> first | exact (hd : False).elim | skip
        next zs =>
        cases h6 with
        | @od _ _ _ o2 hH2 rr2 hd2 nd2 =>
          cases o2 <;> first | exact (hd2 : False).elim | skip
          next zs2 =>
          cases rr2
          cases ru
          cases rw
          obtain ⟨_, ya, va, ra, da⟩ := (show ObjOk X.prog X.w H s.heap a (.dK zs) from I.hok a _ hH)
          obtain ⟨_, yb, vb, rb, db⟩ := (show ObjOk X.prog X.w H s.heap b (.dK []) from I.hok b _ hH2)
          cases rb
          have hemp := repD_emp rr
          have hlv := ra.length
          refine PySem.W.keq_ne (knd := mixKind X.prog X.w) (r := true) ya yb da db (by have := hr.room.units; omega) (fun hl => ?_) (fin_bl I (q.here (.bl _) S) ?_)
          · cases va with
            | nil => exact .nil
            | cons _ _ => simp at hl
          · rw [← hemp]
            cases va <;> cases zs <;> simp_all
    · exact q.elim
  · exact q.elim
end
section
variable {E : ErP} {st : Store} {n m : Nat} {kvs : List (DK × D)} {P : D → Store → Prop} {PS : Slot → Store → Prop}
theorem go_sortedY {ks : List Int} (h : st[n]? = some (.cell (.od false kvs))) (hk : intK kvs = some ks) (q : PS (.ol ((srt ks).map .int)) st) : (sortedY [.ref n] st).holds E PS := by
  unfold sortedY
  simp only [h, hk]
  exact q
theorem go_neE {kvs : List (DK × D)} (h : st[n]? = some (.cell (.od false kvs))) (h2 : st[m]? = some (.cell (.od false []))) (q : P (.bl (!kvs.isEmpty)) st) : (neE (.ref n) (.ref m) st).holds E P := by
  unfold neE
  simp only [h, h2]
  exact q
end
end EV
set_option Elab.async false
set_option linter.all false
set_option autoImplicit false
set_option maxRecDepth 100000
set_option maxHeartbeats 4000000
namespace LAW
open PySem PySem.Spec PyProof.Rows L2 EV
def top (i : Nat) : Stmt := PySem.Challenge.pw_climborsink_k82_many_letters.main.body.getD i (.Pass ⟨0, 0, 0, 0⟩)
/-- what stands in the module besides the defs -/
structure Mod0 (K : PySem.W.Frag) (w : World) (mg : Str → Option Value) : Prop where
  b_ArithmeticError : mg "ArithmeticError" = none
  b_IndexError : mg "IndexError" = none
  b_KeyError : mg "KeyError" = none
  b_LookupError : mg "LookupError" = none
  b_OverflowError : mg "OverflowError" = none
  b_RuntimeError : mg "RuntimeError" = none
  b_TypeError : mg "TypeError" = none
  b_ValueError : mg "ValueError" = none
  b_abs : mg "abs" = none
  b_bool : mg "bool" = none
  b_int : mg "int" = none
  b_isinstance : mg "isinstance" = none
  b_len : mg "len" = none
  b_list : mg "list" = none
  b_max : mg "max" = none
  b_min : mg "min" = none
  b_range : mg "range" = none
  b_repr : mg "repr" = none
  b_sorted : mg "sorted" = none
  b_tuple : mg "tuple" = none
  f___bool__ : FldTab K mg "__bool__" ["Post"]
  f_by_number : FldTab K mg "by_number" ["Post"]
  f_coming : FldTab K mg "coming" ["Post"]
  xB_ArithmeticError : IsxB K mg "ArithmeticError" [("NoLetter", false)]
  xB_IndexError : IsxB K mg "IndexError" [("NoLetter", false)]
  xB_KeyError : IsxB K mg "KeyError" [("NoLetter", true)]
  xB_LookupError : IsxB K mg "LookupError" [("NoLetter", true)]
  xB_OverflowError : IsxB K mg "OverflowError" [("NoLetter", false)]
  xB_RuntimeError : IsxB K mg "RuntimeError" [("NoLetter", false)]
  xB_TypeError : IsxB K mg "TypeError" [("NoLetter", false)]
  xB_ValueError : IsxB K mg "ValueError" [("NoLetter", false)]
  xo_NoDeed : IsxO K mg "NoDeed" [("NoLetter", false)]
  xo_NoLetter : IsxO K mg "NoLetter" [("NoLetter", true)]
  xo_NoMotion : IsxO K mg "NoMotion" [("NoLetter", false)]
  xo_NoOrder : IsxO K mg "NoOrder" [("NoLetter", false)]
  xo_NoRow : IsxO K mg "NoRow" [("NoLetter", false)]
  xo_NoSky : IsxO K mg "NoSky" [("NoLetter", false)]
  xo_NoTurn : IsxO K mg "NoTurn" [("NoLetter", false)]
  xo_NoWords : IsxO K mg "NoWords" [("NoLetter", false)]
  xo_NotAgreed : IsxO K mg "NotAgreed" [("NoLetter", false)]
  xf_NoLetter_number : XfAt K mg "NoLetter" "number"
  xt_NoLetter : ExTab K mg ["NoLetter"] "NoLetter"
  z : True
abbrev s_NoLetter___init__ : Stmt := inClass (top 4) 0
theorem sc_NoLetter___init__ : FnScope ["self", "number"] ["self", "number"] (defScope s_NoLetter___init__) := ⟨rfl, rfl, rfl, by decide +kernel, rfl, by decide +kernel, by decide +kernel⟩
/-! ### is_whole -/
abbrev s_is_whole : Stmt := top 11
theorem sc_is_whole : FnScope ["thing"] ["thing"] (defScope s_is_whole) := ⟨rfl, rfl, rfl, by decide +kernel, rfl, by decide +kernel, by decide +kernel⟩
def B_is_whole : En → Store → ResS :=
  sRet (vAndV (vA isiD (vCons (vName 0) (vCons (vC (.ty "int")) (vNil)))) (vNotV (vA isiD (vCons (vName 0) (vCons (vC (.ty "bool")) (vNil))))))
def F_is_whole : List D → Store → Res D := fnF 1 0 B_is_whole
theorem ok_is_whole {P : Program} {w : World} {K : PySem.W.Frag} {mg : Str → Option Value} {base : Heap} (M : Mod0 K w mg) (T : TopDef K mg "is_whole" s_is_whole ["thing"])  : DefOk P w K mg base "is_whole" 1 ["thing"] F_is_whole :=
  def_ok (k := 0) (body := B_is_whole) T sc_is_whole rfl fun f cdv A outer s H E hr tk =>
  (ss_one (st_ret (e_and (e_callB (x := "isinstance") b_isinstance rfl M.b_isinstance (by decide +kernel) (a_cons (e_name 0 rfl (.inl rfl)) (a_cons (e_bltn rfl M.b_int (by decide +kernel) (show RelV (.ty "int") _ from rfl) fun _ => .ty "int") a_nil))) (e_one (e_not (e_callB (x := "isinstance") b_isinstance rfl M.b_isinstance (by decide +kernel) (a_cons (e_name 0 rfl (.inl rfl)) (a_cons (e_bltn rfl M.b_bool (by decide +kernel) (show RelV (.ty "bool") _ from rfl) fun _ => .ty "bool") a_nil))))))))
/-! ### _law_urn -/
abbrev s__law_urn : Stmt := top 15
theorem sc__law_urn : FnScope ["_law_script", "_law_spot", "_law_cell", "_law_great"] ["_law_script", "_law_spot"] (defScope s__law_urn) := ⟨rfl, rfl, rfl, by decide +kernel, rfl, by decide +kernel, by decide +kernel⟩
def B__law_urn : En → Store → ResS :=
  sSeq (sSet 2 (vC (.int 0)))
  (sSeq (sIf (vB (v2 ltD (vName 1) (vA lenD (vCons (vName 0) (vNil))))) (sSet 2 (v2 ixD (vName 0) (vName 1))) (sNil))
  (sSeq (sSet 3 (vA absD (vCons (vName 2) (vNil))))
  (sSeq (sIf (vB (v2 ltD (vName 3) (v2 powD (vC (.int 10)) (vC (.int 18))))) (sSet 3 (vC (.int 0))) (sNil))
  (sRet (vRef (vA mkLst (vCons (vName 3) (vCons (v2 addD (v2 addD (v2 addD (v2 modD (vName 2) (vC (.int 1000000000000000003))) (v2 mulD (v2 mulD (vC (.int 97)) (vName 1)) (vName 1))) (v2 mulD (vC (.int 31)) (vName 1))) (vC (.int 1))) (vCons (vC (.int 0)) (vNil))))))))))
def F__law_urn : List D → Store → Res D := fnF 2 2 B__law_urn
theorem ok__law_urn {P : Program} {w : World} {K : PySem.W.Frag} {mg : Str → Option Value} {base : Heap} (M : Mod0 K w mg) (T : TopDef K mg "_law_urn" s__law_urn ["_law_script", "_law_spot"])  : DefOk P w K mg base "_law_urn" 1 ["_law_script", "_law_spot"] F__law_urn :=
  def_ok (k := 0) (body := B__law_urn) T sc__law_urn rfl fun f cdv A outer s H E hr tk =>
  (ss_cons (st_set 2 sc__law_urn.nd rfl (.inl rfl) e_int)
  (ss_cons (st_if (t_cmp o_lt (e_name 1 rfl (.inl rfl)) (e_callB (x := "len") b_len rfl M.b_len (by decide +kernel) (a_cons (e_name 0 rfl (.inl rfl)) a_nil)) (nomark _)) (ss_one (st_set 2 sc__law_urn.nd rfl (.inl rfl) (e_ix hr (e_name 0 rfl (.inl rfl)) (e_name 1 rfl (.inl rfl)) fun _ _ => rfl))) ss_nil)
  (ss_cons (st_set 3 sc__law_urn.nd rfl (.inl rfl) (e_callB (x := "abs") b_abs rfl M.b_abs (by decide +kernel) (a_cons (e_name 2 rfl (.inl rfl)) a_nil)))
  (ss_cons (st_if (t_cmp o_lt (e_name 3 rfl (.inl rfl)) (e_bin o_pow e_int e_int) (nomark _)) (ss_one (st_set 3 sc__law_urn.nd rfl (.inl rfl) e_int)) ss_nil)
  (ss_one (st_ret (e_ref (s_lst (a_cons (e_name 3 rfl (.inl rfl)) (a_cons (e_bin o_add (e_bin o_add (e_bin o_add (e_bin o_mod (e_name 2 rfl (.inl rfl)) e_int) (e_bin o_mul (e_bin o_mul e_int (e_name 1 rfl (.inl rfl))) (e_name 1 rfl (.inl rfl)))) (e_bin o_mul e_int (e_name 1 rfl (.inl rfl)))) e_int) (a_cons e_int a_nil)))))))))))
/-! ### _law_draw -/
abbrev s__law_draw : Stmt := top 16
theorem sc__law_draw : FnScope ["_law_urn_here", "_law_wide", "_law_digit", "_law_primes", "_law_here", "_law_base", "_law_mixed"] ["_law_urn_here", "_law_wide"] (defScope s__law_draw) := ⟨rfl, rfl, rfl, by decide +kernel, rfl, by decide +kernel, by decide +kernel⟩
def B__law_draw : En → Store → ResS :=
  sSeq (sIf (vB (v2 gtD (v2 ixD (vName 0) (vC (.int 0))) (vC (.int 0)))) (sSeq (sSet 2 (v2 modD (v2 ixD (vName 0) (vC (.int 0))) (vName 1)))
  (sSeq (sAsg (v2 fdivD (v2 ixD (vName 0) (vC (.int 0))) (vName 1)) (gSubR (vName 0) (vC (.int 0))))
  (sRet (vName 2)))) (sNil))
  (sSeq (sSet 3 (vA mkTup (vCons (vC (.int 2147483647)) (vCons (vC (.int 2147483629)) (vCons (vC (.int 2147483587)) (vCons (vC (.int 2147483579)) (vCons (vC (.int 2147483563)) (vCons (vC (.int 2147483549)) (vCons (vC (.int 2147483543)) (vNil))))))))))
  (sSeq (sAsg (v2 addD (v2 ixD (vName 0) (vC (.int 2))) (vC (.int 1))) (gSubR (vName 0) (vC (.int 2))))
  (sSeq (sSet 4 (v2 ixD (vName 0) (vC (.int 2))))
  (sSeq (sSet 5 (v2 addD (v2 addD (v2 mulD (v2 ixD (vName 0) (vC (.int 1))) (v2 addD (v2 mulD (vC (.int 2)) (vName 4)) (vC (.int 1)))) (v2 mulD (v2 mulD (vC (.int 6007)) (vName 4)) (vName 4))) (vC (.int 53))))
  (sSeq (sSet 6 (v2 modD (v2 powD (vName 5) (vC (.int 3))) (v2 ixD (vName 3) (v2 modD (vName 4) (vC (.int 7))))))
  (sRet (v2 modD (v2 fdivD (v2 modD (v2 mulD (vName 6) (v2 addD (v2 fdivD (vName 6) (vC (.int 8191))) (vName 4))) (v2 ixD (vName 3) (v2 modD (v2 addD (vName 4) (vC (.int 3))) (vC (.int 7))))) (vC (.int 16))) (vName 1))))))))
def F__law_draw : List D → Store → Res D := fnF 2 5 B__law_draw
theorem ok__law_draw {P : Program} {w : World} {K : PySem.W.Frag} {mg : Str → Option Value} {base : Heap} (M : Mod0 K w mg) (T : TopDef K mg "_law_draw" s__law_draw ["_law_urn_here", "_law_wide"])  : DefOk P w K mg base "_law_draw" 1 ["_law_urn_here", "_law_wide"] F__law_draw :=
  def_ok (k := 0) (body := B__law_draw) T sc__law_draw rfl fun f cdv A outer s H E hr tk =>
  (ss_cons (st_if (t_cmp o_gt (e_ix hr (e_name 0 rfl (.inl rfl)) e_int fun _ _ => rfl) e_int (nomark _)) (ss_cons (st_set 2 sc__law_draw.nd rfl (.inl rfl) (e_bin o_mod (e_ix hr (e_name 0 rfl (.inl rfl)) e_int fun _ _ => rfl) (e_name 1 rfl (.inl rfl))))
  (ss_cons (st_asg (e_bin o_fdiv (e_ix hr (e_name 0 rfl (.inl rfl)) e_int fun _ _ => rfl) (e_name 1 rfl (.inl rfl))) (g_subR hr (e_name 0 rfl (.inl rfl)) e_int))
  (ss_one (st_ret (e_name 2 rfl (.inl rfl)))))) ss_nil)
  (ss_cons (st_set 3 sc__law_draw.nd rfl (.inl rfl) (e_tup (a_cons e_int (a_cons e_int (a_cons e_int (a_cons e_int (a_cons e_int (a_cons e_int (a_cons e_int a_nil)))))))))
  (ss_cons (st_asg (e_bin o_add (e_ix hr (e_name 0 rfl (.inl rfl)) e_int fun _ _ => rfl) e_int) (g_subR hr (e_name 0 rfl (.inl rfl)) e_int))
  (ss_cons (st_set 4 sc__law_draw.nd rfl (.inl rfl) (e_ix hr (e_name 0 rfl (.inl rfl)) e_int fun _ _ => rfl))
  (ss_cons (st_set 5 sc__law_draw.nd rfl (.inl rfl) (e_bin o_add (e_bin o_add (e_bin o_mul (e_ix hr (e_name 0 rfl (.inl rfl)) e_int fun _ _ => rfl) (e_bin o_add (e_bin o_mul e_int (e_name 4 rfl (.inl rfl))) e_int)) (e_bin o_mul (e_bin o_mul e_int (e_name 4 rfl (.inl rfl))) (e_name 4 rfl (.inl rfl)))) e_int))
  (ss_cons (st_set 6 sc__law_draw.nd rfl (.inl rfl) (e_bin o_mod (e_bin o_pow (e_name 5 rfl (.inl rfl)) e_int) (e_ix hr (e_name 3 rfl (.inl rfl)) (e_bin o_mod (e_name 4 rfl (.inl rfl)) e_int) fun _ _ => rfl)))
  (ss_one (st_ret (e_bin o_mod (e_bin o_fdiv (e_bin o_mod (e_bin o_mul (e_name 6 rfl (.inl rfl)) (e_bin o_add (e_bin o_fdiv (e_name 6 rfl (.inl rfl)) e_int) (e_name 4 rfl (.inl rfl)))) (e_ix hr (e_name 3 rfl (.inl rfl)) (e_bin o_mod (e_bin o_add (e_name 4 rfl (.inl rfl)) e_int) e_int) fun _ _ => rfl)) e_int) (e_name 1 rfl (.inl rfl)))))))))))
/-! ### _law_whole -/
abbrev s__law_whole : Stmt := top 17
theorem sc__law_whole : FnScope ["_law_thing"] ["_law_thing"] (defScope s__law_whole) := ⟨rfl, rfl, rfl, by decide +kernel, rfl, by decide +kernel, by decide +kernel⟩
def B__law_whole : En → Store → ResS :=
  sRet (vAndV (vA isiD (vCons (vName 0) (vCons (vC (.ty "int")) (vNil)))) (vNotV (vA isiD (vCons (vName 0) (vCons (vC (.ty "bool")) (vNil))))))
def F__law_whole : List D → Store → Res D := fnF 1 0 B__law_whole
theorem ok__law_whole {P : Program} {w : World} {K : PySem.W.Frag} {mg : Str → Option Value} {base : Heap} (M : Mod0 K w mg) (T : TopDef K mg "_law_whole" s__law_whole ["_law_thing"])  : DefOk P w K mg base "_law_whole" 1 ["_law_thing"] F__law_whole :=
  def_ok (k := 0) (body := B__law_whole) T sc__law_whole rfl fun f cdv A outer s H E hr tk =>
  (ss_one (st_ret (e_and (e_callB (x := "isinstance") b_isinstance rfl M.b_isinstance (by decide +kernel) (a_cons (e_name 0 rfl (.inl rfl)) (a_cons (e_bltn rfl M.b_int (by decide +kernel) (show RelV (.ty "int") _ from rfl) fun _ => .ty "int") a_nil))) (e_one (e_not (e_callB (x := "isinstance") b_isinstance rfl M.b_isinstance (by decide +kernel) (a_cons (e_name 0 rfl (.inl rfl)) (a_cons (e_bltn rfl M.b_bool (by decide +kernel) (show RelV (.ty "bool") _ from rfl) fun _ => .ty "bool") a_nil))))))))
/-! ### _law_which -/
abbrev s__law_which : Stmt := top 18
theorem sc__law_which : FnScope ["_law_e", "_law_some", "_law_names", "_law_name", "_law_ours", "_law_theirs", "_law_right"] ["_law_e"] (defScope s__law_which) := ⟨rfl, rfl, rfl, by decide +kernel, rfl, by decide +kernel, by decide +kernel⟩
def B__law_which : En → Store → ResS :=
  sSeq (sSet 1 (vFrz (vA mkLst (vCons (vA mkTup (vCons (vC (.str "NoSky")) (vCons (vA (isxO "NoSky" [("NoLetter", false)]) (vCons (vName 0) (vCons (vC (.fn "NoSky")) (vNil)))) (vCons (vA (isxB "TypeError" [("NoLetter", false)]) (vCons (vName 0) (vCons (vC (.ty "TypeError")) (vNil)))) (vNil))))) (vCons (vA mkTup (vCons (vC (.str "NoWords")) (vCons (vA (isxO "NoWords" [("NoLetter", false)]) (vCons (vName 0) (vCons (vC (.fn "NoWords")) (vNil)))) (vCons (vA (isxB "ValueError" [("NoLetter", false)]) (vCons (vName 0) (vCons (vC (.ty "ValueError")) (vNil)))) (vNil))))) (vCons (vA mkTup (vCons (vC (.str "NotAgreed")) (vCons (vA (isxO "NotAgreed" [("NoLetter", false)]) (vCons (vName 0) (vCons (vC (.fn "NotAgreed")) (vNil)))) (vCons (vA (isxB "RuntimeError" [("NoLetter", false)]) (vCons (vName 0) (vCons (vC (.ty "RuntimeError")) (vNil)))) (vNil))))) (vCons (vA mkTup (vCons (vC (.str "NoLetter")) (vCons (vA (isxO "NoLetter" [("NoLetter", true)]) (vCons (vName 0) (vCons (vC (.fn "NoLetter")) (vNil)))) (vCons (vA (isxB "KeyError" [("NoLetter", true)]) (vCons (vName 0) (vCons (vC (.ty "KeyError")) (vNil)))) (vNil))))) (vCons (vA mkTup (vCons (vC (.str "NoMotion")) (vCons (vA (isxO "NoMotion" [("NoLetter", false)]) (vCons (vName 0) (vCons (vC (.fn "NoMotion")) (vNil)))) (vCons (vA (isxB "ArithmeticError" [("NoLetter", false)]) (vCons (vName 0) (vCons (vC (.ty "ArithmeticError")) (vNil)))) (vNil))))) (vCons (vA mkTup (vCons (vC (.str "NoTurn")) (vCons (vA (isxO "NoTurn" [("NoLetter", false)]) (vCons (vName 0) (vCons (vC (.fn "NoTurn")) (vNil)))) (vCons (vA (isxB "OverflowError" [("NoLetter", false)]) (vCons (vName 0) (vCons (vC (.ty "OverflowError")) (vNil)))) (vNil))))) (vCons (vA mkTup (vCons (vC (.str "NoOrder")) (vCons (vA (isxO "NoOrder" [("NoLetter", false)]) (vCons (vName 0) (vCons (vC (.fn "NoOrder")) (vNil)))) (vCons (vA (isxB "LookupError" [("NoLetter", true)]) (vCons (vName 0) (vCons (vC (.ty "LookupError")) (vNil)))) (vNil))))) (vCons (vA mkTup (vCons (vC (.str "NoDeed")) (vCons (vA (isxO "NoDeed" [("NoLetter", false)]) (vCons (vName 0) (vCons (vC (.fn "NoDeed")) (vNil)))) (vCons (vA (isxB "IndexError" [("NoLetter", false)]) (vCons (vName 0) (vCons (vC (.ty "IndexError")) (vNil)))) (vNil))))) (vCons (vA mkTup (vCons (vC (.str "NoRow")) (vCons (vA (isxO "NoRow" [("NoLetter", false)]) (vCons (vName 0) (vCons (vC (.fn "NoRow")) (vNil)))) (vCons (vA (isxB "ValueError" [("NoLetter", false)]) (vCons (vName 0) (vCons (vC (.ty "ValueError")) (vNil)))) (vNil))))) (vNil)))))))))))))
  (sSeq (sSet 2 (vFrz (vLc (v1 seqB (vName 1)) (.t [.n 3, .n 4, .n 5]) [3, 4, 5] (vB (vName 4)) (vName 3))))
  (sSeq (sSet 6 (vFrz (vLc (v1 seqB (vName 1)) (.t [.n 3, .n 4, .n 5]) [3, 4, 5] (vAnd (vB (vName 4)) (vB (vName 5))) (vName 3))))
  (sSeq (sIf (vAnd (vB (v2 eqD (vA lenD (vCons (vName 2) (vNil))) (vC (.int 1)))) (vB (v2 eqD (vName 6) (vName 2)))) (sRet (v2 ixD (vName 2) (vC (.int 0)))) (sNil))
  (sRet (vC (.str "several"))))))
def F__law_which : List D → Store → Res D := fnF 1 6 B__law_which
theorem ok__law_which {P : Program} {w : World} {K : PySem.W.Frag} {mg : Str → Option Value} {base : Heap} (M : Mod0 K w mg) (T : TopDef K mg "_law_which" s__law_which ["_law_e"])  : DefOkH P w K mg base "_law_which" 1 ["_law_e"] F__law_which :=
  hdef_ok (k := 0) (body := B__law_which) T sc__law_which rfl fun f cdv A outer s H p hr hot =>
  (ss_cons (st_set 1 sc__law_which.nd rfl (.inl rfl) (e_frz (s_lst (a_cons (e_tup (a_cons e_str (a_cons (e_callB (x := "isinstance") (b_isxO M.xo_NoSky) rfl M.b_isinstance (by decide +kernel) (a_cons (e_name 0 rfl (.inl rfl)) (a_cons (e_clsN M.xo_NoSky rfl) a_nil))) (a_cons (e_callB (x := "isinstance") (b_isxB M.xB_TypeError) rfl M.b_isinstance (by decide +kernel) (a_cons (e_name 0 rfl (.inl rfl)) (a_cons (e_bltn rfl M.b_TypeError (by decide +kernel) (show RelV (.ty "TypeError") _ from rfl) fun _ => .ty "TypeError") a_nil))) a_nil)))) (a_cons (e_tup (a_cons e_str (a_cons (e_callB (x := "isinstance") (b_isxO M.xo_NoWords) rfl M.b_isinstance (by decide +kernel) (a_cons (e_name 0 rfl (.inl rfl)) (a_cons (e_clsN M.xo_NoWords rfl) a_nil))) (a_cons (e_callB (x := "isinstance") (b_isxB M.xB_ValueError) rfl M.b_isinstance (by decide +kernel) (a_cons (e_name 0 rfl (.inl rfl)) (a_cons (e_bltn rfl M.b_ValueError (by decide +kernel) (show RelV (.ty "ValueError") _ from rfl) fun _ => .ty "ValueError") a_nil))) a_nil)))) (a_cons (e_tup (a_cons e_str (a_cons (e_callB (x := "isinstance") (b_isxO M.xo_NotAgreed) rfl M.b_isinstance (by decide +kernel) (a_cons (e_name 0 rfl (.inl rfl)) (a_cons (e_clsN M.xo_NotAgreed rfl) a_nil))) (a_cons (e_callB (x := "isinstance") (b_isxB M.xB_RuntimeError) rfl M.b_isinstance (by decide +kernel) (a_cons (e_name 0 rfl (.inl rfl)) (a_cons (e_bltn rfl M.b_RuntimeError (by decide +kernel) (show RelV (.ty "RuntimeError") _ from rfl) fun _ => .ty "RuntimeError") a_nil))) a_nil)))) (a_cons (e_tup (a_cons e_str (a_cons (e_callB (x := "isinstance") (b_isxO M.xo_NoLetter) rfl M.b_isinstance (by decide +kernel) (a_cons (e_name 0 rfl (.inl rfl)) (a_cons (e_clsN M.xo_NoLetter rfl) a_nil))) (a_cons (e_callB (x := "isinstance") (b_isxB M.xB_KeyError) rfl M.b_isinstance (by decide +kernel) (a_cons (e_name 0 rfl (.inl rfl)) (a_cons (e_bltn rfl M.b_KeyError (by decide +kernel) (show RelV (.ty "KeyError") _ from rfl) fun _ => .ty "KeyError") a_nil))) a_nil)))) (a_cons (e_tup (a_cons e_str (a_cons (e_callB (x := "isinstance") (b_isxO M.xo_NoMotion) rfl M.b_isinstance (by decide +kernel) (a_cons (e_name 0 rfl (.inl rfl)) (a_cons (e_clsN M.xo_NoMotion rfl) a_nil))) (a_cons (e_callB (x := "isinstance") (b_isxB M.xB_ArithmeticError) rfl M.b_isinstance (by decide +kernel) (a_cons (e_name 0 rfl (.inl rfl)) (a_cons (e_bltn rfl M.b_ArithmeticError (by decide +kernel) (show RelV (.ty "ArithmeticError") _ from rfl) fun _ => .ty "ArithmeticError") a_nil))) a_nil)))) (a_cons (e_tup (a_cons e_str (a_cons (e_callB (x := "isinstance") (b_isxO M.xo_NoTurn) rfl M.b_isinstance (by decide +kernel) (a_cons (e_name 0 rfl (.inl rfl)) (a_cons (e_clsN M.xo_NoTurn rfl) a_nil))) (a_cons (e_callB (x := "isinstance") (b_isxB M.xB_OverflowError) rfl M.b_isinstance (by decide +kernel) (a_cons (e_name 0 rfl (.inl rfl)) (a_cons (e_bltn rfl M.b_OverflowError (by decide +kernel) (show RelV (.ty "OverflowError") _ from rfl) fun _ => .ty "OverflowError") a_nil))) a_nil)))) (a_cons (e_tup (a_cons e_str (a_cons (e_callB (x := "isinstance") (b_isxO M.xo_NoOrder) rfl M.b_isinstance (by decide +kernel) (a_cons (e_name 0 rfl (.inl rfl)) (a_cons (e_clsN M.xo_NoOrder rfl) a_nil))) (a_cons (e_callB (x := "isinstance") (b_isxB M.xB_LookupError) rfl M.b_isinstance (by decide +kernel) (a_cons (e_name 0 rfl (.inl rfl)) (a_cons (e_bltn rfl M.b_LookupError (by decide +kernel) (show RelV (.ty "LookupError") _ from rfl) fun _ => .ty "LookupError") a_nil))) a_nil)))) (a_cons (e_tup (a_cons e_str (a_cons (e_callB (x := "isinstance") (b_isxO M.xo_NoDeed) rfl M.b_isinstance (by decide +kernel) (a_cons (e_name 0 rfl (.inl rfl)) (a_cons (e_clsN M.xo_NoDeed rfl) a_nil))) (a_cons (e_callB (x := "isinstance") (b_isxB M.xB_IndexError) rfl M.b_isinstance (by decide +kernel) (a_cons (e_name 0 rfl (.inl rfl)) (a_cons (e_bltn rfl M.b_IndexError (by decide +kernel) (show RelV (.ty "IndexError") _ from rfl) fun _ => .ty "IndexError") a_nil))) a_nil)))) (a_cons (e_tup (a_cons e_str (a_cons (e_callB (x := "isinstance") (b_isxO M.xo_NoRow) rfl M.b_isinstance (by decide +kernel) (a_cons (e_name 0 rfl (.inl rfl)) (a_cons (e_clsN M.xo_NoRow rfl) a_nil))) (a_cons (e_callB (x := "isinstance") (b_isxB M.xB_ValueError) rfl M.b_isinstance (by decide +kernel) (a_cons (e_name 0 rfl (.inl rfl)) (a_cons (e_bltn rfl M.b_ValueError (by decide +kernel) (show RelV (.ty "ValueError") _ from rfl) fun _ => .ty "ValueError") a_nil))) a_nil)))) a_nil))))))))))))
  (ss_cons (st_setLcF1H (own := [("_law_name", 3), ("_law_ours", 4), ("_law_theirs", 5)]) (N0 := ["_law_e", "_law_some", "_law_names", "_law_name", "_law_ours", "_law_theirs", "_law_right"]) (sc0 := defScope s__law_which) 2 hot sc__law_which.nd rfl rfl (sw_true rfl rfl rfl (by decide +kernel)) (i_seqB (e_name 1 rfl (.inl rfl))) (by decide +kernel) rfl rfl (by decide) (fun _ _ _ _ _ hb => (pat_tH hb (pats_cons (pat_n 3 sc__law_which.nd rfl (.inl rfl)) (pats_cons (pat_n 4 sc__law_which.nd rfl (.inl rfl)) (pats_cons (pat_n 5 sc__law_which.nd rfl (.inl rfl)) pats_nil))))) (fun _ _ _ _ _ => by exact (t_val (e_name 4 rfl (.inl rfl)))) (fun _ _ _ _ _ => by exact (e_name 3 rfl (.inl rfl))))
  (ss_cons (st_setLcF1H (own := [("_law_name", 3), ("_law_ours", 4), ("_law_theirs", 5)]) (N0 := ["_law_e", "_law_some", "_law_names", "_law_name", "_law_ours", "_law_theirs", "_law_right"]) (sc0 := defScope s__law_which) 6 hot sc__law_which.nd rfl rfl (sw_true rfl rfl rfl (by decide +kernel)) (i_seqB (e_name 1 rfl (.inl rfl))) (by decide +kernel) rfl rfl (by decide) (fun _ _ _ _ _ hb => (pat_tH hb (pats_cons (pat_n 3 sc__law_which.nd rfl (.inl rfl)) (pats_cons (pat_n 4 sc__law_which.nd rfl (.inl rfl)) (pats_cons (pat_n 5 sc__law_which.nd rfl (.inl rfl)) pats_nil))))) (fun _ _ _ _ _ => by exact (PW.pt (bw_and (t_val (e_name 4 rfl (.inl rfl))) (bw_and1 (t_val (e_name 5 rfl (.inl rfl))))))) (fun _ _ _ _ _ => by exact (e_name 3 rfl (.inl rfl))))
  (ss_cons (st_if (PW.pt (bw_and (t_cmp (o_eqH hr) (e_callB (x := "len") b_len rfl M.b_len (by decide +kernel) (a_cons (e_name 2 rfl (.inl rfl)) a_nil)) e_int (nomark _)) (bw_and1 (t_cmp (o_eqH hr) (e_name 6 rfl (.inl rfl)) (e_name 2 rfl (.inl rfl)) (nomark _))))) (ss_one (st_ret (e_ixH hr (e_name 2 rfl (.inl rfl)) e_int fun _ _ => rfl))) ss_nil)
  (ss_one (st_ret e_str))))))
/-! ### _law_letter -/
abbrev s__law_letter : Stmt := top 19
theorem sc__law_letter : FnScope ["_law_urn_here", "_law_place", "_law_turn", "_law_way", "_law_parts", "_law_k"] ["_law_urn_here"] (defScope s__law_letter) := ⟨rfl, rfl, rfl, by decide +kernel, rfl, by decide +kernel, by decide +kernel⟩
def B__law_letter : En → Store → ResS :=
  sSeq (sPar 1 2 (vCons (v2 addD (vC (.int 1)) (vA (fnN 2 F__law_draw) (vCons (vName 0) (vCons (vC (.int 3)) (vNil))))) (vCons (vA (fnN 2 F__law_draw) (vCons (vName 0) (vCons (vC (.int 7)) (vNil)))) (vNil))))
  (sSeq (sSet 3 (vA (fnN 2 F__law_draw) (vCons (vName 0) (vCons (vC (.int 3)) (vNil)))))
  (sSeq (sIf (vB (v2 eqD (vName 3) (vC (.int 0)))) (sSeq (sSet 4 (vFrz (vA mkLst (vCons (vC (.str "")) (vCons (vC (.str "tell")) (vCons (vC (.str "got")) (vCons (vC (.str "a b")) (vCons (vC (.int 0)) (vCons (v1 negD (vC (.int 1))) (vCons (vC (.int 7)) (vCons (v2 powD (vC (.int 10)) (vC (.int 8))) (vNil))))))))))))
  (sRet (vA tupOfD (vCons (vFrz (vLc (vA rng1F (vCons (vA (fnN 2 F__law_draw) (vCons (vName 0) (vCons (vC (.int 7)) (vNil)))) (vNil))) (.n 5) [5] (ttYes) (v2 ixD (vName 4) (vA (fnN 2 F__law_draw) (vCons (vName 0) (vCons (vC (.int 8)) (vNil))))))) (vNil))))) (sNil))
  (sSeq (sIf (vB (v2 eqD (vName 3) (vC (.int 1)))) (sRet (vA mkTup (vCons (vC (.str "got")) (vCons (vName 1) (vCons (vName 2) (vNil)))))) (sNil))
  (sRet (vA mkTup (vCons (vC (.str "tell")) (vCons (vName 1) (vCons (vName 2) (vCons (v2 ixD (vFrz (vA mkLst (vCons (vC (.str "climb")) (vCons (vC (.str "hold")) (vCons (vC (.str "sink")) (vCons (vC (.str "free")) (vNil))))))) (vA (fnN 2 F__law_draw) (vCons (vName 0) (vCons (vC (.int 4)) (vNil))))) (vNil))))))))))
def F__law_letter : List D → Store → Res D := fnF 1 5 B__law_letter
theorem ok__law_letter {P : Program} {w : World} {K : PySem.W.Frag} {mg : Str → Option Value} {base : Heap} (M : Mod0 K w mg) (T : TopDef K mg "_law_letter" s__law_letter ["_law_urn_here"]) (D__law_draw : DefOk P w K mg base "_law_draw" 1 ["_law_urn_here", "_law_wide"] F__law_draw) : DefOk P w K mg base "_law_letter" 2 ["_law_urn_here"] F__law_letter :=
  def_ok (k := 1) (body := B__law_letter) T sc__law_letter rfl fun f cdv A outer s H E hr tk =>
  (ss_cons (st_par (i := 1) (j := 2) rfl sc__law_letter.nd rfl rfl (by decide) rfl rfl (a_cons (e_bin o_add e_int (e_def (x := "_law_draw") (ps := ["_law_urn_here", "_law_wide"]) D__law_draw hr (by omega) tk rfl (a_cons (e_name 0 rfl (.inr (.inl rfl))) (a_cons e_int a_nil)))) (a_cons (e_def (x := "_law_draw") (ps := ["_law_urn_here", "_law_wide"]) D__law_draw hr (by omega) tk rfl (a_cons (e_name 0 rfl (.inr (.inl rfl))) (a_cons e_int a_nil))) a_nil)) rfl)
  (ss_cons (st_set 3 sc__law_letter.nd rfl (.inl rfl) (e_def (x := "_law_draw") (ps := ["_law_urn_here", "_law_wide"]) D__law_draw hr (by omega) tk rfl (a_cons (e_name 0 rfl (.inr (.inl rfl))) (a_cons e_int a_nil))))
  (ss_cons (st_if (t_cmp (o_eq hr) (e_name 3 rfl (.inl rfl)) e_int (nomark _)) (ss_cons (st_set 4 sc__law_letter.nd rfl (.inr rfl) (e_frz (s_lst (a_cons e_str (a_cons e_str (a_cons e_str (a_cons e_str (a_cons e_int (a_cons (e_un o_neg e_int) (a_cons e_int (a_cons (e_bin o_pow e_int e_int) a_nil)))))))))))
  (ss_one (st_ret (e_callTy (x := "tuple") b_tuple rfl M.b_tuple (by decide +kernel) (a_cons (e_frz (s_lc0 (own := [("_law_k", 5)]) (N0 := ["_law_urn_here", "_law_place", "_law_turn", "_law_way", "_law_parts", "_law_k"]) (sc0 := defScope s__law_letter) rfl sc__law_letter.nd (i_range1 rfl M.b_range (a_cons (e_def (x := "_law_draw") (ps := ["_law_urn_here", "_law_wide"]) D__law_draw hr (by omega) tk rfl (a_cons (e_name 0 rfl (.inr (.inl rfl))) (a_cons e_int a_nil))) a_nil)) (by decide +kernel) rfl rfl (by decide) (fun _ _ _ _ _ => (pat_n 5 sc__law_letter.nd rfl (.inl rfl)))  (fun _ _ _ _ _ => by exact (e_ix hr (e_name 4 rfl (.inr (.inl rfl))) (e_def (x := "_law_draw") (ps := ["_law_urn_here", "_law_wide"]) D__law_draw hr (by omega) takes0 rfl (a_cons (e_name 0 rfl (.inr (.inl rfl))) (a_cons e_int a_nil))) fun _ _ => rfl)))) a_nil))))) ss_nil)
  (ss_cons (st_if (t_cmp (o_eq hr) (e_name 3 rfl (.inl rfl)) e_int (nomark _)) (ss_one (st_ret (e_tup (a_cons e_str (a_cons (e_name 1 rfl (.inl rfl)) (a_cons (e_name 2 rfl (.inl rfl)) a_nil)))))) ss_nil)
  (ss_one (st_ret (e_tup (a_cons e_str (a_cons (e_name 1 rfl (.inl rfl)) (a_cons (e_name 2 rfl (.inl rfl)) (a_cons (e_ix hr (e_frz (s_lst (a_cons e_str (a_cons e_str (a_cons e_str (a_cons e_str a_nil)))))) (e_def (x := "_law_draw") (ps := ["_law_urn_here", "_law_wide"]) D__law_draw hr (by omega) tk rfl (a_cons (e_name 0 rfl (.inr (.inl rfl))) (a_cons e_int a_nil))) fun _ _ => rfl) a_nil)))))))))))
/-! ### _law_post_due -/
abbrev s__law_post_due : Stmt := top 20
theorem sc__law_post_due : FnScope ["_law_mine", "_law_line", "_law_word", "_law_thing", "_law_letter_here"] ["_law_mine", "_law_line"] (defScope s__law_post_due) := ⟨rfl, rfl, rfl, by decide +kernel, rfl, by decide +kernel, by decide +kernel⟩
def B__law_post_due : En → Store → ResS :=
  sSeq (sAsg (vName 1) (gPat (.t [.n 2, .n 3])))
  (sSeq (sIf (vB (v2 eqD (vName 2) (vC (.str "send")))) (sAsg (vName 3) (gSubR (v2 ixD (vName 0) (vC (.str "letters"))) (v2 ixD (vName 0) (vC (.str "coming"))))) (sIf (vOr (vNot (vB (vA (fnN 1 F__law_whole) (vCons (vName 3) (vNil))))) (vB (v2 notinD (vName 3) (v2 ixD (vName 0) (vC (.str "letters")))))) (sRet (vA mkTup (vCons (vC (.str "NoLetter")) (vCons (vName 3) (vNil))))) (sIf (vB (v2 eqD (vName 2) (vC (.str "double")))) (sAsg (v2 ixD (v2 ixD (vName 0) (vC (.str "letters"))) (vName 3)) (gSubR (v2 ixD (vName 0) (vC (.str "letters"))) (v2 ixD (vName 0) (vC (.str "coming"))))) (sSeq (sSet 4 (vBd dpopD (v2 ixD (vName 0) (vC (.str "letters"))) (vName 3)))
  (sRet (vA mkTup (vCons (vC (.str "told")) (vCons (vIf (vB (v2 eqD (vName 2) (vC (.str "carry")))) (vName 4) (vC .non)) (vNil)))))))))
  (sSeq (sAsg (v2 addD (v2 ixD (vName 0) (vC (.str "coming"))) (vC (.int 1))) (gSubR (vName 0) (vC (.str "coming"))))
  (sRet (vA mkTup (vCons (vC (.str "told")) (vCons (v2 subD (v2 ixD (vName 0) (vC (.str "coming"))) (vC (.int 1))) (vNil)))))))
def F__law_post_due : List D → Store → Res D := fnF 2 3 B__law_post_due
theorem ok__law_post_due {P : Program} {w : World} {K : PySem.W.Frag} {mg : Str → Option Value} {base : Heap} (M : Mod0 K w mg) (T : TopDef K mg "_law_post_due" s__law_post_due ["_law_mine", "_law_line"]) (D__law_whole : DefOk P w K mg base "_law_whole" 1 ["_law_thing"] F__law_whole) : DefOk P w K mg base "_law_post_due" 2 ["_law_mine", "_law_line"] F__law_post_due :=
  def_ok (k := 1) (body := B__law_post_due) T sc__law_post_due rfl fun f cdv A outer s H E hr tk =>
  (ss_cons (st_asg (e_name 1 rfl (.inl rfl)) (g_pat (pat_t rfl (pats_cons (pat_n 2 sc__law_post_due.nd rfl (.inl rfl)) (pats_cons (pat_n 3 sc__law_post_due.nd rfl (.inl rfl)) pats_nil)))))
  (ss_cons (st_if (t_cmp (o_eq hr) (e_name 2 rfl (.inl rfl)) e_str (nomark _)) (ss_one (st_asg (e_name 3 rfl (.inl rfl)) (g_subR hr (e_ix hr (e_name 0 rfl (.inl rfl)) e_str fun _ _ => rfl) (e_ix hr (e_name 0 rfl (.inl rfl)) e_str fun _ _ => rfl)))) (ss_one (st_if (PW.pt (bw_or (b_not (t_val (e_def (x := "_law_whole") (ps := ["_law_thing"]) D__law_whole hr (by omega) tk rfl (a_cons (e_name 3 rfl (.inl rfl)) a_nil)))) (bw_or1 (t_cmp (o_notin hr) (e_name 3 rfl (.inl rfl)) (e_ix hr (e_name 0 rfl (.inl rfl)) e_str fun _ _ => rfl) rfl)))) (ss_one (st_ret (e_tup (a_cons e_str (a_cons (e_name 3 rfl (.inl rfl)) a_nil))))) (ss_one (st_if (t_cmp (o_eq hr) (e_name 2 rfl (.inl rfl)) e_str (nomark _)) (ss_one (st_asg (e_ix hr (e_ix hr (e_name 0 rfl (.inl rfl)) e_str fun _ _ => rfl) (e_name 3 rfl (.inl rfl)) fun _ _ => rfl) (g_subR hr (e_ix hr (e_name 0 rfl (.inl rfl)) e_str fun _ _ => rfl) (e_ix hr (e_name 0 rfl (.inl rfl)) e_str fun _ _ => rfl)))) (ss_cons (st_set 4 sc__law_post_due.nd rfl (.inl rfl) (e_dpop (e_ix hr (e_name 0 rfl (.inl rfl)) e_str fun _ _ => rfl) (e_name 3 rfl (.inl rfl))))
  (ss_one (st_ret (e_tup (a_cons e_str (a_cons (e_ifExp (t_cmp (o_eq hr) (e_name 2 rfl (.inl rfl)) e_str (nomark _)) (e_name 4 rfl (.inl rfl)) e_non) a_nil)))))))))))
  (ss_cons (st_asg (e_bin o_add (e_ix hr (e_name 0 rfl (.inl rfl)) e_str fun _ _ => rfl) e_int) (g_subR hr (e_name 0 rfl (.inl rfl)) e_str))
  (ss_one (st_ret (e_tup (a_cons e_str (a_cons (e_bin o_sub (e_ix hr (e_name 0 rfl (.inl rfl)) e_str fun _ _ => rfl) e_int) a_nil))))))))
/-! ### Post_look_number -/
abbrev s_Post_look_number : Stmt := inClass (top 13) 2
theorem sc_Post_look_number : FnScope ["self", "number"] ["self", "number"] (defScope s_Post_look_number) := ⟨rfl, rfl, rfl, by decide +kernel, rfl, by decide +kernel, by decide +kernel⟩
def B_Post_look_number : En → Store → ResS :=
  sIf (vOr (vNot (vB (vA (fnN 1 F_is_whole) (vCons (vName 1) (vNil))))) (vB (v2 notinD (vName 1) (v1 (fldF ["Post"] "by_number") (vName 0))))) (sRaise "NoLetter" ["number"] (vCons (vName 1) (vNil))) (sNil)
def F_Post_look_number : List D → Store → Res D := fnF 2 0 B_Post_look_number
theorem ok_Post_look_number {P : Program} {w : World} {K : PySem.W.Frag} {mg : Str → Option Value} {base : Heap} (M : Mod0 K w mg) (T : TopMeth K mg "Post" "look_number" "Post.look_number" s_Post_look_number ["self", "number"]) (D_is_whole : DefOk P w K mg base "is_whole" 1 ["thing"] F_is_whole) (X_NoLetter : XMk P w K mg base 1 "NoLetter" ["number"]) : MethOk P w K mg base 3 "look_number" "Post" ["self", "number"] F_Post_look_number :=
  meth_ok (k := 2) (body := B_Post_look_number) T sc_Post_look_number rfl fun f cdv A outer s H E hr tk =>
  (ss_one (st_if (PW.pt (bw_or (b_not (t_val (e_def (x := "is_whole") (ps := ["thing"]) D_is_whole hr (by omega) tk rfl (a_cons (e_name 1 rfl (.inl rfl)) a_nil)))) (bw_or1 (t_cmp (o_notin hr) (e_name 1 rfl (.inl rfl)) (e_fld (f := "by_number") (tb := ["Post"]) (e_name 0 rfl (.inl rfl)) M.f_by_number) rfl)))) (ss_one (st_raise X_NoLetter hr (by omega) rfl tk rfl (a_cons (e_name 1 rfl (.inl rfl)) a_nil))) ss_nil))
/-! ### Post_carry -/
abbrev s_Post_carry : Stmt := inClass (top 13) 3
theorem sc_Post_carry : FnScope ["self", "number"] ["self", "number"] (defScope s_Post_carry) := ⟨rfl, rfl, rfl, by decide +kernel, rfl, by decide +kernel, by decide +kernel⟩
def B_Post_carry : En → Store → ResS :=
  sSeq (sExpr (vMeth [("Post", ["self", "number"], F_Post_look_number)] "look_number" (vName 0) (vCons (vName 1) (vNil))))
  (sRet (vBd dpopD (v1 (fldF ["Post"] "by_number") (vName 0)) (vName 1)))
def F_Post_carry : List D → Store → Res D := fnF 2 0 B_Post_carry
theorem ok_Post_carry {P : Program} {w : World} {K : PySem.W.Frag} {mg : Str → Option Value} {base : Heap} (M : Mod0 K w mg) (T : TopMeth K mg "Post" "carry" "Post.carry" s_Post_carry ["self", "number"]) (D_Post_look_number : MethOk P w K mg base 3 "look_number" "Post" ["self", "number"] F_Post_look_number) : MethOk P w K mg base 4 "carry" "Post" ["self", "number"] F_Post_carry :=
  meth_ok (k := 3) (body := B_Post_carry) T sc_Post_carry rfl fun f cdv A outer s H E hr tk =>
  (ss_cons (st_expr (e_meth (m := "look_number") (tb := [("Post", ["self", "number"], F_Post_look_number)]) (k := 3) ⟨D_Post_look_number.mono (by omega), trivial⟩ hr tk (e_name 0 rfl (.inl rfl)) (a_cons (e_name 1 rfl (.inl rfl)) a_nil)))
  (ss_one (st_ret (e_dpop (e_fld (f := "by_number") (tb := ["Post"]) (e_name 0 rfl (.inl rfl)) M.f_by_number) (e_name 1 rfl (.inl rfl))))))
/-! ### Post_send -/
abbrev s_Post_send : Stmt := inClass (top 13) 1
theorem sc_Post_send : FnScope ["self", "letter", "number"] ["self", "letter"] (defScope s_Post_send) := ⟨rfl, rfl, rfl, by decide +kernel, rfl, by decide +kernel, by decide +kernel⟩
def B_Post_send : En → Store → ResS :=
  sSeq (sSet 2 (v1 (fldF ["Post"] "coming") (vName 0)))
  (sSeq (sFldA ["Post"] "coming" 1 (vName 0))
  (sSeq (sAsg (vName 1) (gSubR (v1 (fldF ["Post"] "by_number") (vName 0)) (vName 2)))
  (sRet (vName 2))))
def F_Post_send : List D → Store → Res D := fnF 2 1 B_Post_send
theorem ok_Post_send {P : Program} {w : World} {K : PySem.W.Frag} {mg : Str → Option Value} {base : Heap} (M : Mod0 K w mg) (T : TopMeth K mg "Post" "send" "Post.send" s_Post_send ["self", "letter"])  : MethOk P w K mg base 1 "send" "Post" ["self", "letter"] F_Post_send :=
  meth_ok (k := 0) (body := B_Post_send) T sc_Post_send rfl fun f cdv A outer s H E hr tk =>
  (ss_cons (st_set 2 sc_Post_send.nd rfl (.inl rfl) (e_fld (f := "coming") (tb := ["Post"]) (e_name 0 rfl (.inl rfl)) M.f_coming))
  (ss_cons (st_fldaug (f := "coming") (tb := ["Post"]) (e_name 0 rfl (.inl rfl)) M.f_coming)
  (ss_cons (st_asg (e_name 1 rfl (.inl rfl)) (g_subR hr (e_fld (f := "by_number") (tb := ["Post"]) (e_name 0 rfl (.inl rfl)) M.f_by_number) (e_name 2 rfl (.inl rfl))))
  (ss_one (st_ret (e_name 2 rfl (.inl rfl)))))))
/-! ### Post_double -/
abbrev s_Post_double : Stmt := inClass (top 13) 5
theorem sc_Post_double : FnScope ["self", "number"] ["self", "number"] (defScope s_Post_double) := ⟨rfl, rfl, rfl, by decide +kernel, rfl, by decide +kernel, by decide +kernel⟩
def B_Post_double : En → Store → ResS :=
  sSeq (sExpr (vMeth [("Post", ["self", "number"], F_Post_look_number)] "look_number" (vName 0) (vCons (vName 1) (vNil))))
  (sRet (vMeth [("Post", ["self", "letter"], F_Post_send)] "send" (vName 0) (vCons (v2 ixD (v1 (fldF ["Post"] "by_number") (vName 0)) (vName 1)) (vNil))))
def F_Post_double : List D → Store → Res D := fnF 2 0 B_Post_double
theorem ok_Post_double {P : Program} {w : World} {K : PySem.W.Frag} {mg : Str → Option Value} {base : Heap} (M : Mod0 K w mg) (T : TopMeth K mg "Post" "double" "Post.double" s_Post_double ["self", "number"]) (D_Post_send : MethOk P w K mg base 1 "send" "Post" ["self", "letter"] F_Post_send) (D_Post_look_number : MethOk P w K mg base 3 "look_number" "Post" ["self", "number"] F_Post_look_number) : MethOk P w K mg base 4 "double" "Post" ["self", "number"] F_Post_double :=
  meth_ok (k := 3) (body := B_Post_double) T sc_Post_double rfl fun f cdv A outer s H E hr tk =>
  (ss_cons (st_expr (e_meth (m := "look_number") (tb := [("Post", ["self", "number"], F_Post_look_number)]) (k := 3) ⟨D_Post_look_number.mono (by omega), trivial⟩ hr tk (e_name 0 rfl (.inl rfl)) (a_cons (e_name 1 rfl (.inl rfl)) a_nil)))
  (ss_one (st_ret (e_meth (m := "send") (tb := [("Post", ["self", "letter"], F_Post_send)]) (k := 3) ⟨D_Post_send.mono (by omega), trivial⟩ hr tk (e_name 0 rfl (.inl rfl)) (a_cons (e_ix hr (e_fld (f := "by_number") (tb := ["Post"]) (e_name 0 rfl (.inl rfl)) M.f_by_number) (e_name 1 rfl (.inl rfl)) fun _ _ => rfl) a_nil)))))
/-! ### Post_lose -/
abbrev s_Post_lose : Stmt := inClass (top 13) 4
theorem sc_Post_lose : FnScope ["self", "number"] ["self", "number"] (defScope s_Post_lose) := ⟨rfl, rfl, rfl, by decide +kernel, rfl, by decide +kernel, by decide +kernel⟩
def B_Post_lose : En → Store → ResS :=
  sSeq (sExpr (vMeth [("Post", ["self", "number"], F_Post_look_number)] "look_number" (vName 0) (vCons (vName 1) (vNil))))
  (sExpr (vBd dpopD (v1 (fldF ["Post"] "by_number") (vName 0)) (vName 1)))
def F_Post_lose : List D → Store → Res D := fnF 2 0 B_Post_lose
theorem ok_Post_lose {P : Program} {w : World} {K : PySem.W.Frag} {mg : Str → Option Value} {base : Heap} (M : Mod0 K w mg) (T : TopMeth K mg "Post" "lose" "Post.lose" s_Post_lose ["self", "number"]) (D_Post_look_number : MethOk P w K mg base 3 "look_number" "Post" ["self", "number"] F_Post_look_number) : MethOk P w K mg base 4 "lose" "Post" ["self", "number"] F_Post_lose :=
  meth_ok (k := 3) (body := B_Post_lose) T sc_Post_lose rfl fun f cdv A outer s H E hr tk =>
  (ss_cons (st_expr (e_meth (m := "look_number") (tb := [("Post", ["self", "number"], F_Post_look_number)]) (k := 3) ⟨D_Post_look_number.mono (by omega), trivial⟩ hr tk (e_name 0 rfl (.inl rfl)) (a_cons (e_name 1 rfl (.inl rfl)) a_nil)))
  (ss_one (st_expr (e_dpop (e_fld (f := "by_number") (tb := ["Post"]) (e_name 0 rfl (.inl rfl)) M.f_by_number) (e_name 1 rfl (.inl rfl))))))
/-! ### _law_post_does -/
abbrev s__law_post_does : Stmt := top 21
theorem sc__law_post_does : FnScope ["_law_post", "_law_line", "_law_word", "_law_thing", "_law_e"] ["_law_post", "_law_line"] (defScope s__law_post_does) := ⟨rfl, rfl, rfl, by decide +kernel, rfl, by decide +kernel, by decide +kernel⟩
def B__law_post_does : En → Store → ResS :=
  sSeq (sAsg (vName 1) (gPat (.t [.n 2, .n 3])))
  (sTry ["NoLetter"] (sSeq (sIf (vB (v2 eqD (vName 2) (vC (.str "send")))) (sRet (vA mkTup (vCons (vC (.str "told")) (vCons (vMeth [("Post", ["self", "letter"], F_Post_send)] "send" (vName 0) (vCons (vName 3) (vNil))) (vNil))))) (sNil))
  (sSeq (sIf (vB (v2 eqD (vName 2) (vC (.str "carry")))) (sRet (vA mkTup (vCons (vC (.str "told")) (vCons (vMeth [("Post", ["self", "number"], F_Post_carry)] "carry" (vName 0) (vCons (vName 3) (vNil))) (vNil))))) (sNil))
  (sSeq (sIf (vB (v2 eqD (vName 2) (vC (.str "lose")))) (sRet (vA mkTup (vCons (vC (.str "told")) (vCons (vMeth [("Post", ["self", "number"], F_Post_lose)] "lose" (vName 0) (vCons (vName 3) (vNil))) (vNil))))) (sNil))
  (sRet (vA mkTup (vCons (vC (.str "told")) (vCons (vMeth [("Post", ["self", "number"], F_Post_double)] "double" (vName 0) (vCons (vName 3) (vNil))) (vNil)))))))) [⟨["NoLetter"], some 4, sRet (vA mkTup (vCons (vA (fnH 1 F__law_which) (vCons (vName 4) (vNil))) (vCons (v1 (xfF "NoLetter" "number") (vName 4)) (vNil))))⟩])
def F__law_post_does : List D → Store → Res D := fnF 2 3 B__law_post_does
theorem ok__law_post_does {P : Program} {w : World} {K : PySem.W.Frag} {mg : Str → Option Value} {base : Heap} (M : Mod0 K w mg) (T : TopDef K mg "_law_post_does" s__law_post_does ["_law_post", "_law_line"]) (D_Post_send : MethOk P w K mg base 1 "send" "Post" ["self", "letter"] F_Post_send) (D_Post_carry : MethOk P w K mg base 4 "carry" "Post" ["self", "number"] F_Post_carry) (D_Post_lose : MethOk P w K mg base 4 "lose" "Post" ["self", "number"] F_Post_lose) (D_Post_double : MethOk P w K mg base 4 "double" "Post" ["self", "number"] F_Post_double) (D__law_which : DefOkH P w K mg base "_law_which" 1 ["_law_e"] F__law_which) : DefOk P w K mg base "_law_post_does" 5 ["_law_post", "_law_line"] F__law_post_does :=
  def_ok (k := 4) (body := B__law_post_does) T sc__law_post_does rfl fun f cdv A outer s H E hr tk =>
  (ss_cons (st_asg (e_name 1 rfl (.inl rfl)) (g_pat (pat_t rfl (pats_cons (pat_n 2 sc__law_post_does.nd rfl (.inl rfl)) (pats_cons (pat_n 3 sc__law_post_does.nd rfl (.inl rfl)) pats_nil)))))
  (ss_one (st_try (tb := ["NoLetter"]) rfl rfl rfl sc__law_post_does.nd tk (fun _ _ _ tk pa => (ss_cons (st_if (t_cmp (o_eq hr) (e_name 2 rfl (.inl rfl)) e_str (nomark _)) (ss_one (st_ret (e_tup (a_cons e_str (a_cons (e_meth (m := "send") (tb := [("Post", ["self", "letter"], F_Post_send)]) (k := 4) ⟨D_Post_send.mono (by omega), trivial⟩ hr tk (e_name 0 rfl (.inl rfl)) (a_cons (e_name 3 rfl (.inl rfl)) a_nil)) a_nil))))) ss_nil)
  (ss_cons (st_if (t_cmp (o_eq hr) (e_name 2 rfl (.inl rfl)) e_str (nomark _)) (ss_one (st_ret (e_tup (a_cons e_str (a_cons (e_meth (m := "carry") (tb := [("Post", ["self", "number"], F_Post_carry)]) (k := 4) ⟨D_Post_carry.mono (by omega), trivial⟩ hr tk (e_name 0 rfl (.inl rfl)) (a_cons (e_name 3 rfl (.inl rfl)) a_nil)) a_nil))))) ss_nil)
  (ss_cons (st_if (t_cmp (o_eq hr) (e_name 2 rfl (.inl rfl)) e_str (nomark _)) (ss_one (st_ret (e_tup (a_cons e_str (a_cons (e_meth (m := "lose") (tb := [("Post", ["self", "number"], F_Post_lose)]) (k := 4) ⟨D_Post_lose.mono (by omega), trivial⟩ hr tk (e_name 0 rfl (.inl rfl)) (a_cons (e_name 3 rfl (.inl rfl)) a_nil)) a_nil))))) ss_nil)
  (ss_one (st_ret (e_tup (a_cons e_str (a_cons (e_meth (m := "double") (tb := [("Post", ["self", "number"], F_Post_double)]) (k := 4) ⟨D_Post_double.mono (by omega), trivial⟩ hr tk (e_name 0 rfl (.inl rfl)) (a_cons (e_name 3 rfl (.inl rfl)) a_nil)) a_nil))))))))) (.oneAs (i := 4) rfl (by decide) rfl rfl (fun _ _ _ hot => (ss_one (st_ret (e_tup (a_cons (e_defH (x := "_law_which") (ps := ["_law_e"]) D__law_which (rmH hr) (by omega) hot rfl (a_cons (e_name 4 rfl (.inl rfl)) a_nil)) (a_cons (e_xf (C := "NoLetter") (f := "number") (e_name 4 rfl (.inl rfl)) M.xf_NoLetter_number) a_nil)))))) .nil) (ct_one M.xt_NoLetter ct_nil))))
/-! ### Post_under_way -/
abbrev s_Post_under_way : Stmt := inClass (top 13) 6
theorem sc_Post_under_way : FnScope ["self"] ["self"] (defScope s_Post_under_way) := ⟨rfl, rfl, rfl, by decide +kernel, rfl, by decide +kernel, by decide +kernel⟩
def B_Post_under_way : En → Store → ResS :=
  sRet (vA tupOfD (vCons (vFrz (v1 litems (v1 (fldF ["Post"] "by_number") (vName 0)))) (vNil)))
def F_Post_under_way : List D → Store → Res D := fnF 1 0 B_Post_under_way
theorem ok_Post_under_way {P : Program} {w : World} {K : PySem.W.Frag} {mg : Str → Option Value} {base : Heap} (M : Mod0 K w mg) (T : TopMeth K mg "Post" "under_way" "Post.under_way" s_Post_under_way ["self"])  : MethOk P w K mg base 1 "under_way" "Post" ["self"] F_Post_under_way :=
  meth_ok (k := 0) (body := B_Post_under_way) T sc_Post_under_way rfl fun f cdv A outer s H E hr tk =>
  (ss_one (st_ret (e_callTy (x := "tuple") b_tuple rfl M.b_tuple (by decide +kernel) (a_cons (e_frz (s_listItems rfl (e_fld (f := "by_number") (tb := ["Post"]) (e_name 0 rfl (.inl rfl)) M.f_by_number) rfl M.b_list)) a_nil))))
/-! ### Post___len__ -/
abbrev s_Post___len__ : Stmt := inClass (top 13) 8
theorem sc_Post___len__ : FnScope ["self"] ["self"] (defScope s_Post___len__) := ⟨rfl, rfl, rfl, by decide +kernel, rfl, by decide +kernel, by decide +kernel⟩
def B_Post___len__ : En → Store → ResS :=
  sRet (vA lenD (vCons (v1 (fldF ["Post"] "by_number") (vName 0)) (vNil)))
def F_Post___len__ : List D → Store → Res D := fnF 1 0 B_Post___len__
theorem ok_Post___len__ {P : Program} {w : World} {K : PySem.W.Frag} {mg : Str → Option Value} {base : Heap} (M : Mod0 K w mg) (T : TopMeth K mg "Post" "__len__" "Post.__len__" s_Post___len__ ["self"])  : MethOk P w K mg base 1 "__len__" "Post" ["self"] F_Post___len__ :=
  meth_ok (k := 0) (body := B_Post___len__) T sc_Post___len__ rfl fun f cdv A outer s H E hr tk =>
  (ss_one (st_ret (e_callB (x := "len") b_len rfl M.b_len (by decide +kernel) (a_cons (e_fld (f := "by_number") (tb := ["Post"]) (e_name 0 rfl (.inl rfl)) M.f_by_number) a_nil))))
/-! ### _law_post_stands -/
abbrev s__law_post_stands : Stmt := top 22
theorem sc__law_post_stands : FnScope ["_law_post", "_law_mine", "_law_due", "_law_number"] ["_law_post", "_law_mine"] (defScope s__law_post_stands) := ⟨rfl, rfl, rfl, by decide +kernel, rfl, by decide +kernel, by decide +kernel⟩
def B__law_post_stands : En → Store → ResS :=
  sSeq (sSet 2 (vA tupOfD (vCons (vFrz (vLc (v1 seqF (vFrz (vA sortedY (vCons (v2 ixD (vName 1) (vC (.str "letters"))) (vNil))))) (.n 3) [3] (ttYes) (vA mkTup (vCons (vName 3) (vCons (v2 ixD (v2 ixD (vName 1) (vC (.str "letters"))) (vName 3)) (vNil)))))) (vNil))))
  (sSeq (sIf (vOr (vB (v2 neD (vA reprD (vCons (vMeth [("Post", ["self"], F_Post_under_way)] "under_way" (vName 0) vNil) (vNil))) (vA reprD (vCons (vName 2) (vNil))))) (vB (v2 neD (vA (lenMD [("Post", ["self"], F_Post___len__)]) (vCons (vName 0) (vNil))) (vA lenD (vCons (vName 2) (vNil)))))) (sRet (vC (.bl false))) (sNil))
  (sRet (v2 eqD (vA (boolMD [("Post", ["self"], F_Post___len__)]) (vCons (vName 0) (vNil))) (v2 neD (vName 2) (vA mkTup (vNil))))))
def F__law_post_stands : List D → Store → Res D := fnF 2 2 B__law_post_stands
theorem ok__law_post_stands {P : Program} {w : World} {K : PySem.W.Frag} {mg : Str → Option Value} {base : Heap} (M : Mod0 K w mg) (T : TopDef K mg "_law_post_stands" s__law_post_stands ["_law_post", "_law_mine"]) (D_Post_under_way : MethOk P w K mg base 1 "under_way" "Post" ["self"] F_Post_under_way) (D_Post___len__ : MethOk P w K mg base 1 "__len__" "Post" ["self"] F_Post___len__) : DefOk P w K mg base "_law_post_stands" 5 ["_law_post", "_law_mine"] F__law_post_stands :=
  def_ok (k := 4) (body := B__law_post_stands) T sc__law_post_stands rfl fun f cdv A outer s H E hr tk =>
  (ss_cons (st_set 2 sc__law_post_stands.nd rfl (.inl rfl) (e_callTy (x := "tuple") b_tuple rfl M.b_tuple (by decide +kernel) (a_cons (e_frz (s_lc0 (own := [("_law_number", 3)]) (N0 := ["_law_post", "_law_mine", "_law_due", "_law_number"]) (sc0 := defScope s__law_post_stands) rfl sc__law_post_stands.nd (i_seq (e_frz (s_callB (x := "sorted") (b_sortedY rfl) rfl M.b_sorted (by decide +kernel) (a_cons (e_ix hr (e_name 1 rfl (.inr (.inl rfl))) e_str fun _ _ => rfl) a_nil)))) (by decide +kernel) rfl rfl (by decide) (fun _ _ _ _ _ => (pat_n 3 sc__law_post_stands.nd rfl (.inl rfl)))  (fun _ _ _ _ _ => by exact (e_tup (a_cons (e_name 3 rfl (.inl rfl)) (a_cons (e_ix hr (e_ix hr (e_name 1 rfl (.inr (.inl rfl))) e_str fun _ _ => rfl) (e_name 3 rfl (.inl rfl)) fun _ _ => rfl) a_nil)))))) a_nil)))
  (ss_cons (st_if (PW.pt (bw_or (t_cmp (o_ne hr) (e_callB (x := "repr") (b_repr hr) rfl M.b_repr (by decide +kernel) (a_cons (e_meth0 (m := "under_way") (tb := [("Post", ["self"], F_Post_under_way)]) (k := 4) ⟨D_Post_under_way.mono (by omega), trivial⟩ hr tk (e_name 0 rfl (.inl rfl))) a_nil)) (e_callB (x := "repr") (b_repr hr) rfl M.b_repr (by decide +kernel) (a_cons (e_name 2 rfl (.inl rfl)) a_nil)) (nomark _)) (bw_or1 (t_cmp (o_ne hr) (e_callB (x := "len") (b_lenM (tb := [("Post", ["self"], F_Post___len__)]) (k := 3) ⟨D_Post___len__.mono (by omega), trivial⟩ hr) rfl M.b_len (by decide +kernel) (a_cons (e_name 0 rfl (.inl rfl)) a_nil)) (e_callB (x := "len") b_len rfl M.b_len (by decide +kernel) (a_cons (e_name 2 rfl (.inl rfl)) a_nil)) (nomark _))))) (ss_one (st_ret e_bl)) ss_nil)
  (ss_one (st_ret (e_cmp (o_eq hr) (e_callTy (x := "bool") (b_boolM (tb := [("Post", ["self"], F_Post___len__)]) (k := 1) ⟨D_Post___len__.mono (by omega), trivial⟩ M.f___bool__ (by simp) hr) rfl M.b_bool (by decide +kernel) (a_cons (e_name 0 rfl (.inl rfl)) a_nil)) (e_cmp (o_ne hr) (e_name 2 rfl (.inl rfl)) (e_tup a_nil) (nomark _)) (nomark _))))))
/-! ### Post___init__ -/
abbrev s_Post___init__ : Stmt := inClass (top 13) 0
theorem sc_Post___init__ : FnScope ["self"] ["self"] (defScope s_Post___init__) := ⟨rfl, rfl, rfl, by decide +kernel, rfl, by decide +kernel, by decide +kernel⟩
def B_Post___init__ : En → Store → ResS :=
  sSeq (sAsg (vRef (dnew false)) (gFld ["Post"] "by_number" (vName 0)))
  (sAsg (vC (.int 0)) (gFld ["Post"] "coming" (vName 0)))
def F_Post___init__ : List D → Store → Res D := fnF 1 0 B_Post___init__
theorem ok_Post___init__ {P : Program} {w : World} {K : PySem.W.Frag} {mg : Str → Option Value} {base : Heap} (M : Mod0 K w mg) (T : TopInit K mg "Post" "Post.__init__" s_Post___init__ ["self"])  : InitOk P w K mg base 1 "Post" ["self"] F_Post___init__ :=
  init_ok (k := 0) (body := B_Post___init__) T sc_Post___init__ rfl fun f cdv A outer s H E hr tk =>
  (ss_cons (st_fld (f := "by_number") (tb := ["Post"]) (by exact (e_ref s_dnewK)) (e_name 0 rfl (.inl rfl)) M.f_by_number)
  (ss_one (st_fld (f := "coming") (tb := ["Post"]) (by exact e_int) (e_name 0 rfl (.inl rfl)) M.f_coming)))
/-! ### _law_post_right -/
abbrev s__law_post_right : Stmt := top 23
theorem sc__law_post_right : FnScope ["_law_urn_here", "_law_post", "_law_mine", "_law_k", "_law_line", "_law_some", "_law_one", "_law_left"] ["_law_urn_here"] (defScope s__law_post_right) := ⟨rfl, rfl, rfl, by decide +kernel, rfl, by decide +kernel, by decide +kernel⟩
def B__law_post_right : En → Store → ResS :=
  sSeq (sPar 1 2 (vCons (vA (makeD "Post" 1 F_Post___init__) vNil) (vCons (vRef (dsD ["letters", "coming"] (vCons (vRef (dnew false)) (vCons (vC (.int 0)) (vNil))))) (vNil))))
  (sSeq (sFor (vA rng1F (vCons (v2 addD (vC (.int 100)) (vA (fnN 2 F__law_draw) (vCons (vName 0) (vCons (vC (.int 151)) (vNil))))) (vNil))) (gPat (.n 3)) (sSeq (sSet 4 (vA mkTup (vCons (vC (.str "send")) (vCons (vA (fnN 1 F__law_letter) (vCons (vName 0) (vNil))) (vNil)))))
  (sSeq (sIf (vAnd (vB (v2 neE (v2 ixD (vName 2) (vC (.str "letters"))) (vRef (dnew false)))) (vB (v2 eqD (vA (fnN 2 F__law_draw) (vCons (vName 0) (vCons (vC (.int 4)) (vNil)))) (vC (.int 0))))) (sSeq (sSet 5 (vFrz (vA sortedD (vCons (vFrz (vKeysL (v2 ixD (vName 2) (vC (.str "letters"))))) (vNil)))))
  (sSet 4 (vA mkTup (vCons (v2 ixD (vFrz (vA mkLst (vCons (vC (.str "double")) (vCons (vC (.str "double")) (vCons (vC (.str "lose")) (vNil)))))) (vA (fnN 2 F__law_draw) (vCons (vName 0) (vCons (vC (.int 3)) (vNil))))) (vCons (v2 ixD (vName 5) (vA (fnN 2 F__law_draw) (vCons (vName 0) (vCons (vA lenD (vCons (vName 5) (vNil))) (vNil))))) (vNil)))))) (sNil))
  (sIf (vB (v2 neD (vA reprD (vCons (vA (fnN 2 F__law_post_does) (vCons (vName 1) (vCons (vName 4) (vNil)))) (vNil))) (vA reprD (vCons (vA (fnN 2 F__law_post_due) (vCons (vName 2) (vCons (vName 4) (vNil)))) (vNil))))) (sRet (vC (.bl false))) (sNil)))))
  (sSeq (sIf (vNot (vB (vA (fnN 2 F__law_post_stands) (vCons (vName 1) (vCons (vName 2) (vNil)))))) (sRet (vC (.bl false))) (sNil))
  (sSeq (sSet 7 (vRef (vA sortedD (vCons (vFrz (vKeysL (v2 ixD (vName 2) (vC (.str "letters"))))) (vNil)))))
  (sSeq (whL (vB (v2 neD (vName 7) (vFrz (vA mkLst (vNil))))) (sSeq (sSet 4 (vA mkTup (vCons (vC (.str "carry")) (vCons (vBm popD (vName 7) (v2 ixD (vFrz (vA mkLst (vCons (vC (.int 0)) (vCons (v2 subD (vA lenD (vCons (vName 7) (vNil))) (vC (.int 1))) (vCons (vA (fnN 2 F__law_draw) (vCons (vName 0) (vCons (vA lenD (vCons (vName 7) (vNil))) (vNil)))) (vNil)))))) (vA (fnN 2 F__law_draw) (vCons (vName 0) (vCons (vC (.int 3)) (vNil)))))) (vNil)))))
  (sIf (vB (v2 neD (vA reprD (vCons (vA (fnN 2 F__law_post_does) (vCons (vName 1) (vCons (vName 4) (vNil)))) (vNil))) (vA reprD (vCons (vA (fnN 2 F__law_post_due) (vCons (vName 2) (vCons (vName 4) (vNil)))) (vNil))))) (sRet (vC (.bl false))) (sNil))) 1000000)
  (sRet (vAndV (vA (fnN 2 F__law_post_stands) (vCons (vName 1) (vCons (vName 2) (vNil)))) (v2 eqD (vA (lenMD [("Post", ["self"], F_Post___len__)]) (vCons (vName 1) (vNil))) (vC (.int 0)))))))))
def F__law_post_right : List D → Store → Res D := fnF 1 7 B__law_post_right
theorem ok__law_post_right {P : Program} {w : World} {K : PySem.W.Frag} {mg : Str → Option Value} {base : Heap} (M : Mod0 K w mg) (T : TopDef K mg "_law_post_right" s__law_post_right ["_law_urn_here"]) (D_Post___init__ : InitOk P w K mg base 1 "Post" ["self"] F_Post___init__) (D_Post___len__ : MethOk P w K mg base 1 "__len__" "Post" ["self"] F_Post___len__) (D__law_draw : DefOk P w K mg base "_law_draw" 1 ["_law_urn_here", "_law_wide"] F__law_draw) (D__law_letter : DefOk P w K mg base "_law_letter" 2 ["_law_urn_here"] F__law_letter) (D__law_post_due : DefOk P w K mg base "_law_post_due" 2 ["_law_mine", "_law_line"] F__law_post_due) (D__law_post_does : DefOk P w K mg base "_law_post_does" 5 ["_law_post", "_law_line"] F__law_post_does) (D__law_post_stands : DefOk P w K mg base "_law_post_stands" 5 ["_law_post", "_law_mine"] F__law_post_stands) : DefOk P w K mg base "_law_post_right" 6 ["_law_urn_here"] F__law_post_right :=
  def_ok (k := 5) (body := B__law_post_right) T sc__law_post_right rfl fun f cdv A outer s H E hr tk =>
  (ss_cons (st_par (i := 1) (j := 2) rfl sc__law_post_right.nd rfl rfl (by decide) rfl rfl (a_cons (e_make0 (k := 4) (ps := ["self"]) (D_Post___init__.mono (by omega)) hr tk rfl) (a_cons (e_ref (s_disp (xs := ["letters", "coming"]) (DsE.cons (e_ref s_dnewK) (DsE.cons e_int DsE.nil)) (by simp) (by decide) (by decide +kernel))) a_nil)) rfl)
  (ss_cons (st_for (passes_of rfl) rfl (i_range1 rfl M.b_range (a_cons (e_bin o_add e_int (e_def (x := "_law_draw") (ps := ["_law_urn_here", "_law_wide"]) D__law_draw hr (by omega) tk rfl (a_cons (e_name 0 rfl (.inl rfl)) (a_cons e_int a_nil)))) a_nil)) (g_pat (pat_n 3 sc__law_post_right.nd rfl (.inl rfl))) (ss_cons (st_set 4 sc__law_post_right.nd rfl (.inl rfl) (e_tup (a_cons e_str (a_cons (e_def (x := "_law_letter") (ps := ["_law_urn_here"]) D__law_letter hr (by omega) tk rfl (a_cons (e_name 0 rfl (.inl rfl)) a_nil)) a_nil))))
  (ss_cons (st_if (PW.pt (bw_and (t_cmp (o_neE hr) (e_ix hr (e_name 2 rfl (.inl rfl)) e_str fun _ _ => rfl) (e_ref s_dnewK) (nomark _)) (bw_and1 (t_cmp (o_eq hr) (e_def (x := "_law_draw") (ps := ["_law_urn_here", "_law_wide"]) D__law_draw hr (by omega) tk rfl (a_cons (e_name 0 rfl (.inl rfl)) (a_cons e_int a_nil))) e_int (nomark _))))) (ss_cons (st_set 5 sc__law_post_right.nd rfl (.inl rfl) (e_frz (s_callB (x := "sorted") b_sorted rfl M.b_sorted (by decide +kernel) (a_cons (e_frz (s_keysL (j := 6) (own := [("_law_one", 6)]) (N0 := ["_law_urn_here", "_law_post", "_law_mine", "_law_k", "_law_line", "_law_some", "_law_one", "_law_left"]) (sc0 := defScope s__law_post_right) rfl sc__law_post_right.nd (e_ix hr (e_name 2 rfl (.inl rfl)) e_str fun _ _ => rfl) (by decide +kernel) rfl rfl (by decide) (Nat.le_of_ble_eq_true rfl) (fun _ _ _ _ _ => (pat_n 6 sc__law_post_right.nd rfl (.inl rfl))) (fun _ _ _ _ _ => (pe_var (i := 6) rfl (.inl rfl))))) a_nil))))
  (ss_one (st_set 4 sc__law_post_right.nd rfl (.inl rfl) (e_tup (a_cons (e_ix hr (e_frz (s_lst (a_cons e_str (a_cons e_str (a_cons e_str a_nil))))) (e_def (x := "_law_draw") (ps := ["_law_urn_here", "_law_wide"]) D__law_draw hr (by omega) tk rfl (a_cons (e_name 0 rfl (.inl rfl)) (a_cons e_int a_nil))) fun _ _ => rfl) (a_cons (e_ix hr (e_name 5 rfl (.inl rfl)) (e_def (x := "_law_draw") (ps := ["_law_urn_here", "_law_wide"]) D__law_draw hr (by omega) tk rfl (a_cons (e_name 0 rfl (.inl rfl)) (a_cons (e_callB (x := "len") b_len rfl M.b_len (by decide +kernel) (a_cons (e_name 5 rfl (.inl rfl)) a_nil)) a_nil))) fun _ _ => rfl) a_nil)))))) ss_nil)
  (ss_one (st_if (t_cmp (o_ne hr) (e_callB (x := "repr") (b_repr hr) rfl M.b_repr (by decide +kernel) (a_cons (e_def (x := "_law_post_does") (ps := ["_law_post", "_law_line"]) D__law_post_does hr (by omega) tk rfl (a_cons (e_name 1 rfl (.inl rfl)) (a_cons (e_name 4 rfl (.inl rfl)) a_nil))) a_nil)) (e_callB (x := "repr") (b_repr hr) rfl M.b_repr (by decide +kernel) (a_cons (e_def (x := "_law_post_due") (ps := ["_law_mine", "_law_line"]) D__law_post_due hr (by omega) tk rfl (a_cons (e_name 2 rfl (.inl rfl)) (a_cons (e_name 4 rfl (.inl rfl)) a_nil))) a_nil)) (nomark _)) (ss_one (st_ret e_bl)) ss_nil)))))
  (ss_cons (st_if (b_not (t_val (e_def (x := "_law_post_stands") (ps := ["_law_post", "_law_mine"]) D__law_post_stands hr (by omega) tk rfl (a_cons (e_name 1 rfl (.inl rfl)) (a_cons (e_name 2 rfl (.inl rfl)) a_nil))))) (ss_one (st_ret e_bl)) ss_nil)
  (ss_cons (st_set 7 sc__law_post_right.nd rfl (.inl rfl) (e_ref (s_callB (x := "sorted") b_sorted rfl M.b_sorted (by decide +kernel) (a_cons (e_frz (s_keysL (j := 6) (own := [("_law_one", 6)]) (N0 := ["_law_urn_here", "_law_post", "_law_mine", "_law_k", "_law_line", "_law_some", "_law_one", "_law_left"]) (sc0 := defScope s__law_post_right) rfl sc__law_post_right.nd (e_ix hr (e_name 2 rfl (.inl rfl)) e_str fun _ _ => rfl) (by decide +kernel) rfl rfl (by decide) (Nat.le_of_ble_eq_true rfl) (fun _ _ _ _ _ => (pat_n 6 sc__law_post_right.nd rfl (.inl rfl))) (fun _ _ _ _ _ => (pe_var (i := 6) rfl (.inl rfl))))) a_nil))))
  (ss_cons (st_while 1000000 (passes_of rfl) (t_cmp (o_ne hr) (e_name 7 rfl (.inl rfl)) (e_frz (s_lst a_nil)) (nomark _)) (ss_cons (st_set 4 sc__law_post_right.nd rfl (.inl rfl) (e_tup (a_cons e_str (a_cons (e_popI (e_name 7 rfl (.inl rfl)) (e_ix hr (e_frz (s_lst (a_cons e_int (a_cons (e_bin o_sub (e_callB (x := "len") b_len rfl M.b_len (by decide +kernel) (a_cons (e_name 7 rfl (.inl rfl)) a_nil)) e_int) (a_cons (e_def (x := "_law_draw") (ps := ["_law_urn_here", "_law_wide"]) D__law_draw hr (by omega) tk rfl (a_cons (e_name 0 rfl (.inl rfl)) (a_cons (e_callB (x := "len") b_len rfl M.b_len (by decide +kernel) (a_cons (e_name 7 rfl (.inl rfl)) a_nil)) a_nil))) a_nil))))) (e_def (x := "_law_draw") (ps := ["_law_urn_here", "_law_wide"]) D__law_draw hr (by omega) tk rfl (a_cons (e_name 0 rfl (.inl rfl)) (a_cons e_int a_nil))) fun _ _ => rfl)) a_nil))))
  (ss_one (st_if (t_cmp (o_ne hr) (e_callB (x := "repr") (b_repr hr) rfl M.b_repr (by decide +kernel) (a_cons (e_def (x := "_law_post_does") (ps := ["_law_post", "_law_line"]) D__law_post_does hr (by omega) tk rfl (a_cons (e_name 1 rfl (.inl rfl)) (a_cons (e_name 4 rfl (.inl rfl)) a_nil))) a_nil)) (e_callB (x := "repr") (b_repr hr) rfl M.b_repr (by decide +kernel) (a_cons (e_def (x := "_law_post_due") (ps := ["_law_mine", "_law_line"]) D__law_post_due hr (by omega) tk rfl (a_cons (e_name 2 rfl (.inl rfl)) (a_cons (e_name 4 rfl (.inl rfl)) a_nil))) a_nil)) (nomark _)) (ss_one (st_ret e_bl)) ss_nil))))
  (ss_one (st_ret (e_and (e_def (x := "_law_post_stands") (ps := ["_law_post", "_law_mine"]) D__law_post_stands hr (by omega) tk rfl (a_cons (e_name 1 rfl (.inl rfl)) (a_cons (e_name 2 rfl (.inl rfl)) a_nil))) (e_one (e_cmp (o_eq hr) (e_callB (x := "len") (b_lenM (tb := [("Post", ["self"], F_Post___len__)]) (k := 4) ⟨D_Post___len__.mono (by omega), trivial⟩ hr) rfl M.b_len (by decide +kernel) (a_cons (e_name 1 rfl (.inl rfl)) a_nil)) e_int (nomark _)))))))))))
/-! ### law -/
abbrev s_law : Stmt := top 24
theorem sc_law : FnScope ["_law_script", "_law_spot"] ["_law_script"] (defScope s_law) := ⟨rfl, rfl, rfl, by decide +kernel, rfl, by decide +kernel, by decide +kernel⟩
def B_law : En → Store → ResS :=
  sSeq (sFor (vA rng1F (vCons (vA max2 (vCons (vC (.int 1)) (vCons (vA min2 (vCons (vC (.int 2)) (vCons (vA lenD (vCons (vName 0) (vNil))) (vNil)))) (vNil)))) (vNil))) (gPat (.n 1)) (sIf (vNot (vB (vA (fnN 1 F__law_post_right) (vCons (vA (fnN 2 F__law_urn) (vCons (vName 0) (vCons (vName 1) (vNil)))) (vNil))))) (sRet (vC (.bl false))) (sNil)))
  (sRet (vC (.bl true)))
def F_law : List D → Store → Res D := fnF 1 1 B_law
theorem ok_law {P : Program} {w : World} {K : PySem.W.Frag} {mg : Str → Option Value} {base : Heap} (M : Mod0 K w mg) (T : TopDef K mg "law" s_law ["_law_script"]) (D__law_urn : DefOk P w K mg base "_law_urn" 1 ["_law_script", "_law_spot"] F__law_urn) (D__law_post_right : DefOk P w K mg base "_law_post_right" 6 ["_law_urn_here"] F__law_post_right) : DefOk P w K mg base "law" 7 ["_law_script"] F_law :=
  def_ok (k := 6) (body := B_law) T sc_law rfl fun f cdv A outer s H E hr tk =>
  (ss_cons (st_for (passes_of rfl) rfl (i_range1 rfl M.b_range (a_cons (e_callB (x := "max") (b_max2 rfl) rfl M.b_max (by decide +kernel) (a_cons e_int (a_cons (e_callB (x := "min") (b_min2 rfl) rfl M.b_min (by decide +kernel) (a_cons e_int (a_cons (e_callB (x := "len") b_len rfl M.b_len (by decide +kernel) (a_cons (e_name 0 rfl (.inl rfl)) a_nil)) a_nil))) a_nil))) a_nil)) (g_pat (pat_n 1 sc_law.nd rfl (.inl rfl))) (ss_one (st_if (b_not (t_val (e_def (x := "_law_post_right") (ps := ["_law_urn_here"]) D__law_post_right hr (by omega) tk rfl (a_cons (e_def (x := "_law_urn") (ps := ["_law_script", "_law_spot"]) D__law_urn hr (by omega) tk rfl (a_cons (e_name 0 rfl (.inl rfl)) (a_cons (e_name 1 rfl (.inl rfl)) a_nil))) a_nil)))) (ss_one (st_ret e_bl)) ss_nil)))
  (ss_one (st_ret e_bl)))
structure Tops (K : PySem.W.Frag) (w : World) (mg : Str → Option Value) : Prop where
  M : Mod0 K w mg
  T_is_whole : TopDef K mg "is_whole" s_is_whole ["thing"]
  T__law_urn : TopDef K mg "_law_urn" s__law_urn ["_law_script", "_law_spot"]
  T__law_draw : TopDef K mg "_law_draw" s__law_draw ["_law_urn_here", "_law_wide"]
  T__law_whole : TopDef K mg "_law_whole" s__law_whole ["_law_thing"]
  T__law_which : TopDef K mg "_law_which" s__law_which ["_law_e"]
  T__law_letter : TopDef K mg "_law_letter" s__law_letter ["_law_urn_here"]
  T__law_post_due : TopDef K mg "_law_post_due" s__law_post_due ["_law_mine", "_law_line"]
  T_Post_look_number : TopMeth K mg "Post" "look_number" "Post.look_number" s_Post_look_number ["self", "number"]
  T_Post_carry : TopMeth K mg "Post" "carry" "Post.carry" s_Post_carry ["self", "number"]
  T_Post_send : TopMeth K mg "Post" "send" "Post.send" s_Post_send ["self", "letter"]
  T_Post_double : TopMeth K mg "Post" "double" "Post.double" s_Post_double ["self", "number"]
  T_Post_lose : TopMeth K mg "Post" "lose" "Post.lose" s_Post_lose ["self", "number"]
  T__law_post_does : TopDef K mg "_law_post_does" s__law_post_does ["_law_post", "_law_line"]
  T_Post_under_way : TopMeth K mg "Post" "under_way" "Post.under_way" s_Post_under_way ["self"]
  T_Post___len__ : TopMeth K mg "Post" "__len__" "Post.__len__" s_Post___len__ ["self"]
  T__law_post_stands : TopDef K mg "_law_post_stands" s__law_post_stands ["_law_post", "_law_mine"]
  T_Post___init__ : TopInit K mg "Post" "Post.__init__" s_Post___init__ ["self"]
  T__law_post_right : TopDef K mg "_law_post_right" s__law_post_right ["_law_urn_here"]
  T_law : TopDef K mg "law" s_law ["_law_script"]
  TX_NoLetter : TopX K mg "NoLetter" "NoLetter.__init__" s_NoLetter___init__ ["self", "number"] ["number"]
theorem all_ok {P : Program} {w : World} {K : PySem.W.Frag} {mg : Str → Option Value} {base : Heap} (T : Tops K w mg) : DefOk P w K mg base "law" 7 ["_law_script"] F_law := by
  have X_NoLetter := xinit1 (P := P) (w := w) (base := base) (k := 0) T.TX_NoLetter sc_NoLetter___init__ rfl
  have D_is_whole := ok_is_whole (P := P) (w := w) (base := base) T.M T.T_is_whole 
  have D__law_urn := ok__law_urn (P := P) (w := w) (base := base) T.M T.T__law_urn 
  have D__law_draw := ok__law_draw (P := P) (w := w) (base := base) T.M T.T__law_draw 
  have D__law_whole := ok__law_whole (P := P) (w := w) (base := base) T.M T.T__law_whole 
  have D__law_which := ok__law_which (P := P) (w := w) (base := base) T.M T.T__law_which 
  have D__law_letter := ok__law_letter (P := P) (w := w) (base := base) T.M T.T__law_letter D__law_draw
  have D__law_post_due := ok__law_post_due (P := P) (w := w) (base := base) T.M T.T__law_post_due D__law_whole
  have D_Post_look_number := ok_Post_look_number (P := P) (w := w) (base := base) T.M T.T_Post_look_number D_is_whole X_NoLetter
  have D_Post_carry := ok_Post_carry (P := P) (w := w) (base := base) T.M T.T_Post_carry D_Post_look_number
  have D_Post_send := ok_Post_send (P := P) (w := w) (base := base) T.M T.T_Post_send 
  have D_Post_double := ok_Post_double (P := P) (w := w) (base := base) T.M T.T_Post_double D_Post_send D_Post_look_number
  have D_Post_lose := ok_Post_lose (P := P) (w := w) (base := base) T.M T.T_Post_lose D_Post_look_number
  have D__law_post_does := ok__law_post_does (P := P) (w := w) (base := base) T.M T.T__law_post_does D_Post_send D_Post_carry D_Post_lose D_Post_double D__law_which
  have D_Post_under_way := ok_Post_under_way (P := P) (w := w) (base := base) T.M T.T_Post_under_way 
  have D_Post___len__ := ok_Post___len__ (P := P) (w := w) (base := base) T.M T.T_Post___len__ 
  have D__law_post_stands := ok__law_post_stands (P := P) (w := w) (base := base) T.M T.T__law_post_stands D_Post_under_way D_Post___len__
  have D_Post___init__ := ok_Post___init__ (P := P) (w := w) (base := base) T.M T.T_Post___init__ 
  have D__law_post_right := ok__law_post_right (P := P) (w := w) (base := base) T.M T.T__law_post_right D_Post___init__ D_Post___len__ D__law_draw D__law_letter D__law_post_due D__law_post_does D__law_post_stands
  have D_law := ok_law (P := P) (w := w) (base := base) T.M T.T_law D__law_urn D__law_post_right
  exact D_law
theorem tops_mk {K : PySem.W.Frag} {w : World} {h : Heap} {mg : Str → Option Value} (X : K.In h) (G : h.Ns mainGlobals mg)
    {C_Post : Addr} (aC_Post : PySem.W.nsIn K mainGlobals "Post" = some (some (.ref C_Post))) (pg_Post : PySem.W.plainGet K C_Post Str.empty = true) (hd_Post : PySem.W.hasDictIn K C_Post = true) (po_Post : PySem.W.plainOver K C_Post = true)
    (sa_Post : PySem.W.findIn K (.ref C_Post) "__setattr__" = some (some (.builtin "object.__setattr__"))) (mk_Post : PySem.W.makesIn K C_Post = true) (kc_Post : PySem.W.keepIn K (.ref C_Post) = true)
    {C_NoDeed : Addr} (aC_NoDeed : PySem.W.nsIn K mainGlobals "NoDeed" = some (some (.ref C_NoDeed))) (xb_NoDeed : xfB K C_NoDeed = true)
    {C_NoLetter : Addr} (aC_NoLetter : PySem.W.nsIn K mainGlobals "NoLetter" = some (some (.ref C_NoLetter))) (xb_NoLetter : xfB K C_NoLetter = true)
    {C_NoMotion : Addr} (aC_NoMotion : PySem.W.nsIn K mainGlobals "NoMotion" = some (some (.ref C_NoMotion))) (xb_NoMotion : xfB K C_NoMotion = true)
    {C_NoOrder : Addr} (aC_NoOrder : PySem.W.nsIn K mainGlobals "NoOrder" = some (some (.ref C_NoOrder))) (xb_NoOrder : xfB K C_NoOrder = true)
    {C_NoRow : Addr} (aC_NoRow : PySem.W.nsIn K mainGlobals "NoRow" = some (some (.ref C_NoRow))) (xb_NoRow : xfB K C_NoRow = true)
    {C_NoSky : Addr} (aC_NoSky : PySem.W.nsIn K mainGlobals "NoSky" = some (some (.ref C_NoSky))) (xb_NoSky : xfB K C_NoSky = true)
    {C_NoTurn : Addr} (aC_NoTurn : PySem.W.nsIn K mainGlobals "NoTurn" = some (some (.ref C_NoTurn))) (xb_NoTurn : xfB K C_NoTurn = true)
    {C_NoWords : Addr} (aC_NoWords : PySem.W.nsIn K mainGlobals "NoWords" = some (some (.ref C_NoWords))) (xb_NoWords : xfB K C_NoWords = true)
    {C_NotAgreed : Addr} (aC_NotAgreed : PySem.W.nsIn K mainGlobals "NotAgreed" = some (some (.ref C_NotAgreed))) (xb_NotAgreed : xfB K C_NotAgreed = true)
    (ix_NoLetter : IsxC K C_NoLetter)
    (yk_NoDeed : PySem.W.keepIn K (.ref C_NoDeed) = true)
    (yk_NoLetter : PySem.W.keepIn K (.ref C_NoLetter) = true)
    (yk_NoMotion : PySem.W.keepIn K (.ref C_NoMotion) = true)
    (yk_NoOrder : PySem.W.keepIn K (.ref C_NoOrder) = true)
    (yk_NoRow : PySem.W.keepIn K (.ref C_NoRow) = true)
    (yk_NoSky : PySem.W.keepIn K (.ref C_NoSky) = true)
    (yk_NoTurn : PySem.W.keepIn K (.ref C_NoTurn) = true)
    (yk_NoWords : PySem.W.keepIn K (.ref C_NoWords) = true)
    (yk_NotAgreed : PySem.W.keepIn K (.ref C_NotAgreed) = true)
    (xi_NoLetter : PySem.W.excInitIn K C_NoLetter [.type "KeyError", .type "LookupError", .type "Exception", .type "BaseException", .type "object"] "LookupError.__new__" = true) (xo_NoLetter : PySem.W.excOver K C_NoLetter [.type "KeyError", .type "LookupError", .type "Exception", .type "BaseException", .type "object"] = true) (xs_NoLetter : PySem.W.findIn K (.ref C_NoLetter) "__setattr__" = some (some (.builtin "object.__setattr__"))) (xy_NoLetter : PySem.W.typeIn K (.ref C_NoLetter) = some (.type "type")) (xk_NoLetter : PySem.W.keepIn K (.ref C_NoLetter) = true)
    (xn_NoLetter_number : PySem.W.findIn K (.ref C_NoLetter) "number" = some none)
    {fx_NoLetter : Addr} {ocx_NoLetter kVx_NoLetter dcx_NoLetter pmx_NoLetter cdx_NoLetter ctx_NoLetter : Value} {odx_NoLetter anx_NoLetter : Option Addr} {slx_NoLetter : Array (Option Value)}
    (ax_NoLetter : PySem.W.findIn K (.ref C_NoLetter) "__init__" = some (some (.ref fx_NoLetter))) (tx_NoLetter : PySem.W.typeIn K (.ref fx_NoLetter) = some (.type "function"))
    (lx_NoLetter : K.lookup fx_NoLetter = some ⟨ocx_NoLetter, odx_NoLetter, .func (PySem.W.fnOf "__init__" "NoLetter.__init__" (defArgs s_NoLetter___init__) (defBody s_NoLetter___init__) (defScope s_NoLetter___init__) .none kVx_NoLetter dcx_NoLetter pmx_NoLetter anx_NoLetter cdx_NoLetter ctx_NoLetter), slx_NoLetter⟩)
    (cx_NoLetter : PySem.W.codeIn K cdx_NoLetter "NoLetter.__init__" = true) (kx_NoLetter : PySem.W.keepIn K (.ref fx_NoLetter) = true)
    (z0 : PySem.W.nsIn K mainGlobals "ArithmeticError" = some none)
    (z1 : PySem.W.nsIn K mainGlobals "IndexError" = some none)
    (z2 : PySem.W.nsIn K mainGlobals "KeyError" = some none)
    (z3 : PySem.W.nsIn K mainGlobals "LookupError" = some none)
    (z4 : PySem.W.nsIn K mainGlobals "OverflowError" = some none)
    (z5 : PySem.W.nsIn K mainGlobals "RuntimeError" = some none)
    (z6 : PySem.W.nsIn K mainGlobals "TypeError" = some none)
    (z7 : PySem.W.nsIn K mainGlobals "ValueError" = some none)
    (z8 : PySem.W.nsIn K mainGlobals "abs" = some none)
    (z9 : PySem.W.nsIn K mainGlobals "bool" = some none)
    (z10 : PySem.W.nsIn K mainGlobals "int" = some none)
    (z11 : PySem.W.nsIn K mainGlobals "isinstance" = some none)
    (z12 : PySem.W.nsIn K mainGlobals "len" = some none)
    (z13 : PySem.W.nsIn K mainGlobals "list" = some none)
    (z14 : PySem.W.nsIn K mainGlobals "max" = some none)
    (z15 : PySem.W.nsIn K mainGlobals "min" = some none)
    (z16 : PySem.W.nsIn K mainGlobals "range" = some none)
    (z17 : PySem.W.nsIn K mainGlobals "repr" = some none)
    (z18 : PySem.W.nsIn K mainGlobals "sorted" = some none)
    (z19 : PySem.W.nsIn K mainGlobals "tuple" = some none)
    (nf_Post___bool__ : PySem.W.findIn K (.ref C_Post) "__bool__" = some none)
    (nf_Post_by_number : PySem.W.findIn K (.ref C_Post) "by_number" = some none)
    (nf_Post_coming : PySem.W.findIn K (.ref C_Post) "coming" = some none)
    (kt_NoLetter_ArithmeticError : PySem.W.kitOne K (.ref C_NoLetter) (.type "ArithmeticError") = some false)
    (kt_NoLetter_IndexError : PySem.W.kitOne K (.ref C_NoLetter) (.type "IndexError") = some false)
    (kt_NoLetter_KeyError : PySem.W.kitOne K (.ref C_NoLetter) (.type "KeyError") = some true)
    (kt_NoLetter_LookupError : PySem.W.kitOne K (.ref C_NoLetter) (.type "LookupError") = some true)
    (kt_NoLetter_OverflowError : PySem.W.kitOne K (.ref C_NoLetter) (.type "OverflowError") = some false)
    (kt_NoLetter_RuntimeError : PySem.W.kitOne K (.ref C_NoLetter) (.type "RuntimeError") = some false)
    (kt_NoLetter_TypeError : PySem.W.kitOne K (.ref C_NoLetter) (.type "TypeError") = some false)
    (kt_NoLetter_ValueError : PySem.W.kitOne K (.ref C_NoLetter) (.type "ValueError") = some false)
    (kt_NoLetter_NoDeed : PySem.W.kitOne K (.ref C_NoLetter) (.ref C_NoDeed) = some false)
    (kt_NoLetter_NoLetter : PySem.W.kitOne K (.ref C_NoLetter) (.ref C_NoLetter) = some true)
    (kt_NoLetter_NoMotion : PySem.W.kitOne K (.ref C_NoLetter) (.ref C_NoMotion) = some false)
    (kt_NoLetter_NoOrder : PySem.W.kitOne K (.ref C_NoLetter) (.ref C_NoOrder) = some false)
    (kt_NoLetter_NoRow : PySem.W.kitOne K (.ref C_NoLetter) (.ref C_NoRow) = some false)
    (kt_NoLetter_NoSky : PySem.W.kitOne K (.ref C_NoLetter) (.ref C_NoSky) = some false)
    (kt_NoLetter_NoTurn : PySem.W.kitOne K (.ref C_NoLetter) (.ref C_NoTurn) = some false)
    (kt_NoLetter_NoWords : PySem.W.kitOne K (.ref C_NoLetter) (.ref C_NoWords) = some false)
    (kt_NoLetter_NotAgreed : PySem.W.kitOne K (.ref C_NoLetter) (.ref C_NotAgreed) = some false)
    (xm_NoLetter_NoLetter : PySem.W.exmOne K (.ref C_NoLetter) (.ref C_NoLetter) = some true)
    {f0 : Addr} {oc0 kV0 dc0 pm0 cd0 ct0 : Value} {od0 an0 : Option Addr} {sl0 : Array (Option Value)}
    (a0 : PySem.W.nsIn K mainGlobals "is_whole" = some (some (.ref f0)))
    (l0 : K.lookup f0 = some ⟨oc0, od0, .func (PySem.W.fnOf "is_whole" "is_whole" (defArgs s_is_whole) (defBody s_is_whole) (defScope s_is_whole) .none kV0 dc0 pm0 an0 cd0 ct0), sl0⟩)
    (c0 : PySem.W.codeIn K cd0 "is_whole" = true) (k0 : PySem.W.keepIn K (.ref f0) = true)
    {f1 : Addr} {oc1 kV1 dc1 pm1 cd1 ct1 : Value} {od1 an1 : Option Addr} {sl1 : Array (Option Value)}
    (a1 : PySem.W.nsIn K mainGlobals "_law_urn" = some (some (.ref f1)))
    (l1 : K.lookup f1 = some ⟨oc1, od1, .func (PySem.W.fnOf "_law_urn" "_law_urn" (defArgs s__law_urn) (defBody s__law_urn) (defScope s__law_urn) .none kV1 dc1 pm1 an1 cd1 ct1), sl1⟩)
    (c1 : PySem.W.codeIn K cd1 "_law_urn" = true) (k1 : PySem.W.keepIn K (.ref f1) = true)
    {f2 : Addr} {oc2 kV2 dc2 pm2 cd2 ct2 : Value} {od2 an2 : Option Addr} {sl2 : Array (Option Value)}
    (a2 : PySem.W.nsIn K mainGlobals "_law_draw" = some (some (.ref f2)))
    (l2 : K.lookup f2 = some ⟨oc2, od2, .func (PySem.W.fnOf "_law_draw" "_law_draw" (defArgs s__law_draw) (defBody s__law_draw) (defScope s__law_draw) .none kV2 dc2 pm2 an2 cd2 ct2), sl2⟩)
    (c2 : PySem.W.codeIn K cd2 "_law_draw" = true) (k2 : PySem.W.keepIn K (.ref f2) = true)
    {f3 : Addr} {oc3 kV3 dc3 pm3 cd3 ct3 : Value} {od3 an3 : Option Addr} {sl3 : Array (Option Value)}
    (a3 : PySem.W.nsIn K mainGlobals "_law_whole" = some (some (.ref f3)))
    (l3 : K.lookup f3 = some ⟨oc3, od3, .func (PySem.W.fnOf "_law_whole" "_law_whole" (defArgs s__law_whole) (defBody s__law_whole) (defScope s__law_whole) .none kV3 dc3 pm3 an3 cd3 ct3), sl3⟩)
    (c3 : PySem.W.codeIn K cd3 "_law_whole" = true) (k3 : PySem.W.keepIn K (.ref f3) = true)
    {f4 : Addr} {oc4 kV4 dc4 pm4 cd4 ct4 : Value} {od4 an4 : Option Addr} {sl4 : Array (Option Value)}
    (a4 : PySem.W.nsIn K mainGlobals "_law_which" = some (some (.ref f4)))
    (l4 : K.lookup f4 = some ⟨oc4, od4, .func (PySem.W.fnOf "_law_which" "_law_which" (defArgs s__law_which) (defBody s__law_which) (defScope s__law_which) .none kV4 dc4 pm4 an4 cd4 ct4), sl4⟩)
    (c4 : PySem.W.codeIn K cd4 "_law_which" = true) (k4 : PySem.W.keepIn K (.ref f4) = true)
    {f5 : Addr} {oc5 kV5 dc5 pm5 cd5 ct5 : Value} {od5 an5 : Option Addr} {sl5 : Array (Option Value)}
    (a5 : PySem.W.nsIn K mainGlobals "_law_letter" = some (some (.ref f5)))
    (l5 : K.lookup f5 = some ⟨oc5, od5, .func (PySem.W.fnOf "_law_letter" "_law_letter" (defArgs s__law_letter) (defBody s__law_letter) (defScope s__law_letter) .none kV5 dc5 pm5 an5 cd5 ct5), sl5⟩)
    (c5 : PySem.W.codeIn K cd5 "_law_letter" = true) (k5 : PySem.W.keepIn K (.ref f5) = true)
    {f6 : Addr} {oc6 kV6 dc6 pm6 cd6 ct6 : Value} {od6 an6 : Option Addr} {sl6 : Array (Option Value)}
    (a6 : PySem.W.nsIn K mainGlobals "_law_post_due" = some (some (.ref f6)))
    (l6 : K.lookup f6 = some ⟨oc6, od6, .func (PySem.W.fnOf "_law_post_due" "_law_post_due" (defArgs s__law_post_due) (defBody s__law_post_due) (defScope s__law_post_due) .none kV6 dc6 pm6 an6 cd6 ct6), sl6⟩)
    (c6 : PySem.W.codeIn K cd6 "_law_post_due" = true) (k6 : PySem.W.keepIn K (.ref f6) = true)
    {f7 : Addr} {oc7 kV7 dc7 pm7 cd7 ct7 : Value} {od7 an7 : Option Addr} {sl7 : Array (Option Value)}
    (a7 : PySem.W.findIn K (.ref C_Post) "look_number" = some (some (.ref f7))) (i7 : PySem.W.isFn K (.ref f7) = true)
    (l7 : K.lookup f7 = some ⟨oc7, od7, .func (PySem.W.fnOf "look_number" "Post.look_number" (defArgs s_Post_look_number) (defBody s_Post_look_number) (defScope s_Post_look_number) .none kV7 dc7 pm7 an7 cd7 ct7), sl7⟩)
    (c7 : PySem.W.codeIn K cd7 "Post.look_number" = true) (k7 : PySem.W.keepIn K (.ref f7) = true)
    {f8 : Addr} {oc8 kV8 dc8 pm8 cd8 ct8 : Value} {od8 an8 : Option Addr} {sl8 : Array (Option Value)}
    (a8 : PySem.W.findIn K (.ref C_Post) "carry" = some (some (.ref f8))) (i8 : PySem.W.isFn K (.ref f8) = true)
    (l8 : K.lookup f8 = some ⟨oc8, od8, .func (PySem.W.fnOf "carry" "Post.carry" (defArgs s_Post_carry) (defBody s_Post_carry) (defScope s_Post_carry) .none kV8 dc8 pm8 an8 cd8 ct8), sl8⟩)
    (c8 : PySem.W.codeIn K cd8 "Post.carry" = true) (k8 : PySem.W.keepIn K (.ref f8) = true)
    {f9 : Addr} {oc9 kV9 dc9 pm9 cd9 ct9 : Value} {od9 an9 : Option Addr} {sl9 : Array (Option Value)}
    (a9 : PySem.W.findIn K (.ref C_Post) "send" = some (some (.ref f9))) (i9 : PySem.W.isFn K (.ref f9) = true)
    (l9 : K.lookup f9 = some ⟨oc9, od9, .func (PySem.W.fnOf "send" "Post.send" (defArgs s_Post_send) (defBody s_Post_send) (defScope s_Post_send) .none kV9 dc9 pm9 an9 cd9 ct9), sl9⟩)
    (c9 : PySem.W.codeIn K cd9 "Post.send" = true) (k9 : PySem.W.keepIn K (.ref f9) = true)
    {f10 : Addr} {oc10 kV10 dc10 pm10 cd10 ct10 : Value} {od10 an10 : Option Addr} {sl10 : Array (Option Value)}
    (a10 : PySem.W.findIn K (.ref C_Post) "double" = some (some (.ref f10))) (i10 : PySem.W.isFn K (.ref f10) = true)
    (l10 : K.lookup f10 = some ⟨oc10, od10, .func (PySem.W.fnOf "double" "Post.double" (defArgs s_Post_double) (defBody s_Post_double) (defScope s_Post_double) .none kV10 dc10 pm10 an10 cd10 ct10), sl10⟩)
    (c10 : PySem.W.codeIn K cd10 "Post.double" = true) (k10 : PySem.W.keepIn K (.ref f10) = true)
    {f11 : Addr} {oc11 kV11 dc11 pm11 cd11 ct11 : Value} {od11 an11 : Option Addr} {sl11 : Array (Option Value)}
    (a11 : PySem.W.findIn K (.ref C_Post) "lose" = some (some (.ref f11))) (i11 : PySem.W.isFn K (.ref f11) = true)
    (l11 : K.lookup f11 = some ⟨oc11, od11, .func (PySem.W.fnOf "lose" "Post.lose" (defArgs s_Post_lose) (defBody s_Post_lose) (defScope s_Post_lose) .none kV11 dc11 pm11 an11 cd11 ct11), sl11⟩)
    (c11 : PySem.W.codeIn K cd11 "Post.lose" = true) (k11 : PySem.W.keepIn K (.ref f11) = true)
    {f12 : Addr} {oc12 kV12 dc12 pm12 cd12 ct12 : Value} {od12 an12 : Option Addr} {sl12 : Array (Option Value)}
    (a12 : PySem.W.nsIn K mainGlobals "_law_post_does" = some (some (.ref f12)))
    (l12 : K.lookup f12 = some ⟨oc12, od12, .func (PySem.W.fnOf "_law_post_does" "_law_post_does" (defArgs s__law_post_does) (defBody s__law_post_does) (defScope s__law_post_does) .none kV12 dc12 pm12 an12 cd12 ct12), sl12⟩)
    (c12 : PySem.W.codeIn K cd12 "_law_post_does" = true) (k12 : PySem.W.keepIn K (.ref f12) = true)
    {f13 : Addr} {oc13 kV13 dc13 pm13 cd13 ct13 : Value} {od13 an13 : Option Addr} {sl13 : Array (Option Value)}
    (a13 : PySem.W.findIn K (.ref C_Post) "under_way" = some (some (.ref f13))) (i13 : PySem.W.isFn K (.ref f13) = true)
    (l13 : K.lookup f13 = some ⟨oc13, od13, .func (PySem.W.fnOf "under_way" "Post.under_way" (defArgs s_Post_under_way) (defBody s_Post_under_way) (defScope s_Post_under_way) .none kV13 dc13 pm13 an13 cd13 ct13), sl13⟩)
    (c13 : PySem.W.codeIn K cd13 "Post.under_way" = true) (k13 : PySem.W.keepIn K (.ref f13) = true)
    {f14 : Addr} {oc14 kV14 dc14 pm14 cd14 ct14 : Value} {od14 an14 : Option Addr} {sl14 : Array (Option Value)}
    (a14 : PySem.W.findIn K (.ref C_Post) "__len__" = some (some (.ref f14))) (i14 : PySem.W.isFn K (.ref f14) = true)
    (l14 : K.lookup f14 = some ⟨oc14, od14, .func (PySem.W.fnOf "__len__" "Post.__len__" (defArgs s_Post___len__) (defBody s_Post___len__) (defScope s_Post___len__) .none kV14 dc14 pm14 an14 cd14 ct14), sl14⟩)
    (c14 : PySem.W.codeIn K cd14 "Post.__len__" = true) (k14 : PySem.W.keepIn K (.ref f14) = true)
    {f15 : Addr} {oc15 kV15 dc15 pm15 cd15 ct15 : Value} {od15 an15 : Option Addr} {sl15 : Array (Option Value)}
    (a15 : PySem.W.nsIn K mainGlobals "_law_post_stands" = some (some (.ref f15)))
    (l15 : K.lookup f15 = some ⟨oc15, od15, .func (PySem.W.fnOf "_law_post_stands" "_law_post_stands" (defArgs s__law_post_stands) (defBody s__law_post_stands) (defScope s__law_post_stands) .none kV15 dc15 pm15 an15 cd15 ct15), sl15⟩)
    (c15 : PySem.W.codeIn K cd15 "_law_post_stands" = true) (k15 : PySem.W.keepIn K (.ref f15) = true)
    {f16 : Addr} {oc16 kV16 dc16 pm16 cd16 ct16 : Value} {od16 an16 : Option Addr} {sl16 : Array (Option Value)}
    (a16 : PySem.W.findIn K (.ref C_Post) "__init__" = some (some (.ref f16))) (i16 : PySem.W.isFn K (.ref f16) = true)
    (l16 : K.lookup f16 = some ⟨oc16, od16, .func (PySem.W.fnOf "__init__" "Post.__init__" (defArgs s_Post___init__) (defBody s_Post___init__) (defScope s_Post___init__) .none kV16 dc16 pm16 an16 cd16 ct16), sl16⟩)
    (c16 : PySem.W.codeIn K cd16 "Post.__init__" = true) (k16 : PySem.W.keepIn K (.ref f16) = true)
    {f17 : Addr} {oc17 kV17 dc17 pm17 cd17 ct17 : Value} {od17 an17 : Option Addr} {sl17 : Array (Option Value)}
    (a17 : PySem.W.nsIn K mainGlobals "_law_post_right" = some (some (.ref f17)))
    (l17 : K.lookup f17 = some ⟨oc17, od17, .func (PySem.W.fnOf "_law_post_right" "_law_post_right" (defArgs s__law_post_right) (defBody s__law_post_right) (defScope s__law_post_right) .none kV17 dc17 pm17 an17 cd17 ct17), sl17⟩)
    (c17 : PySem.W.codeIn K cd17 "_law_post_right" = true) (k17 : PySem.W.keepIn K (.ref f17) = true)
    {f18 : Addr} {oc18 kV18 dc18 pm18 cd18 ct18 : Value} {od18 an18 : Option Addr} {sl18 : Array (Option Value)}
    (a18 : PySem.W.nsIn K mainGlobals "law" = some (some (.ref f18)))
    (l18 : K.lookup f18 = some ⟨oc18, od18, .func (PySem.W.fnOf "law" "law" (defArgs s_law) (defBody s_law) (defScope s_law) .none kV18 dc18 pm18 an18 cd18 ct18), sl18⟩)
    (c18 : PySem.W.codeIn K cd18 "law" = true) (k18 : PySem.W.keepIn K (.ref f18) = true) : Tops K w mg :=
  ⟨⟨PySem.W.mg_none_of X G z0, PySem.W.mg_none_of X G z1, PySem.W.mg_none_of X G z2, PySem.W.mg_none_of X G z3, PySem.W.mg_none_of X G z4, PySem.W.mg_none_of X G z5, PySem.W.mg_none_of X G z6, PySem.W.mg_none_of X G z7, PySem.W.mg_none_of X G z8, PySem.W.mg_none_of X G z9, PySem.W.mg_none_of X G z10, PySem.W.mg_none_of X G z11, PySem.W.mg_none_of X G z12, PySem.W.mg_none_of X G z13, PySem.W.mg_none_of X G z14, PySem.W.mg_none_of X G z15, PySem.W.mg_none_of X G z16, PySem.W.mg_none_of X G z17, PySem.W.mg_none_of X G z18, PySem.W.mg_none_of X G z19, (fldTab_cons (PySem.W.mg_of X G aC_Post) ⟨pg_Post, hd_Post, po_Post, sa_Post⟩ nf_Post___bool__ fldTab_nil), (fldTab_cons (PySem.W.mg_of X G aC_Post) ⟨pg_Post, hd_Post, po_Post, sa_Post⟩ nf_Post_by_number fldTab_nil), (fldTab_cons (PySem.W.mg_of X G aC_Post) ⟨pg_Post, hd_Post, po_Post, sa_Post⟩ nf_Post_coming fldTab_nil), (fun p hp => by
      simp only [List.mem_cons, List.not_mem_nil, or_false] at hp
      rcases hp with rfl
      · exact ⟨_, PySem.W.mg_of X G aC_NoLetter, ix_NoLetter, kt_NoLetter_ArithmeticError⟩), (fun p hp => by
      simp only [List.mem_cons, List.not_mem_nil, or_false] at hp
      rcases hp with rfl
      · exact ⟨_, PySem.W.mg_of X G aC_NoLetter, ix_NoLetter, kt_NoLetter_IndexError⟩), (fun p hp => by
      simp only [List.mem_cons, List.not_mem_nil, or_false] at hp
      rcases hp with rfl
      · exact ⟨_, PySem.W.mg_of X G aC_NoLetter, ix_NoLetter, kt_NoLetter_KeyError⟩), (fun p hp => by
      simp only [List.mem_cons, List.not_mem_nil, or_false] at hp
      rcases hp with rfl
      · exact ⟨_, PySem.W.mg_of X G aC_NoLetter, ix_NoLetter, kt_NoLetter_LookupError⟩), (fun p hp => by
      simp only [List.mem_cons, List.not_mem_nil, or_false] at hp
      rcases hp with rfl
      · exact ⟨_, PySem.W.mg_of X G aC_NoLetter, ix_NoLetter, kt_NoLetter_OverflowError⟩), (fun p hp => by
      simp only [List.mem_cons, List.not_mem_nil, or_false] at hp
      rcases hp with rfl
      · exact ⟨_, PySem.W.mg_of X G aC_NoLetter, ix_NoLetter, kt_NoLetter_RuntimeError⟩), (fun p hp => by
      simp only [List.mem_cons, List.not_mem_nil, or_false] at hp
      rcases hp with rfl
      · exact ⟨_, PySem.W.mg_of X G aC_NoLetter, ix_NoLetter, kt_NoLetter_TypeError⟩), (fun p hp => by
      simp only [List.mem_cons, List.not_mem_nil, or_false] at hp
      rcases hp with rfl
      · exact ⟨_, PySem.W.mg_of X G aC_NoLetter, ix_NoLetter, kt_NoLetter_ValueError⟩), ⟨_, PySem.W.mg_of X G aC_NoDeed, yk_NoDeed, (fun p hp => by
      simp only [List.mem_cons, List.not_mem_nil, or_false] at hp
      rcases hp with rfl
      · exact ⟨_, PySem.W.mg_of X G aC_NoLetter, ix_NoLetter, kt_NoLetter_NoDeed⟩)⟩, ⟨_, PySem.W.mg_of X G aC_NoLetter, yk_NoLetter, (fun p hp => by
      simp only [List.mem_cons, List.not_mem_nil, or_false] at hp
      rcases hp with rfl
      · exact ⟨_, PySem.W.mg_of X G aC_NoLetter, ix_NoLetter, kt_NoLetter_NoLetter⟩)⟩, ⟨_, PySem.W.mg_of X G aC_NoMotion, yk_NoMotion, (fun p hp => by
      simp only [List.mem_cons, List.not_mem_nil, or_false] at hp
      rcases hp with rfl
      · exact ⟨_, PySem.W.mg_of X G aC_NoLetter, ix_NoLetter, kt_NoLetter_NoMotion⟩)⟩, ⟨_, PySem.W.mg_of X G aC_NoOrder, yk_NoOrder, (fun p hp => by
      simp only [List.mem_cons, List.not_mem_nil, or_false] at hp
      rcases hp with rfl
      · exact ⟨_, PySem.W.mg_of X G aC_NoLetter, ix_NoLetter, kt_NoLetter_NoOrder⟩)⟩, ⟨_, PySem.W.mg_of X G aC_NoRow, yk_NoRow, (fun p hp => by
      simp only [List.mem_cons, List.not_mem_nil, or_false] at hp
      rcases hp with rfl
      · exact ⟨_, PySem.W.mg_of X G aC_NoLetter, ix_NoLetter, kt_NoLetter_NoRow⟩)⟩, ⟨_, PySem.W.mg_of X G aC_NoSky, yk_NoSky, (fun p hp => by
      simp only [List.mem_cons, List.not_mem_nil, or_false] at hp
      rcases hp with rfl
      · exact ⟨_, PySem.W.mg_of X G aC_NoLetter, ix_NoLetter, kt_NoLetter_NoSky⟩)⟩, ⟨_, PySem.W.mg_of X G aC_NoTurn, yk_NoTurn, (fun p hp => by
      simp only [List.mem_cons, List.not_mem_nil, or_false] at hp
      rcases hp with rfl
      · exact ⟨_, PySem.W.mg_of X G aC_NoLetter, ix_NoLetter, kt_NoLetter_NoTurn⟩)⟩, ⟨_, PySem.W.mg_of X G aC_NoWords, yk_NoWords, (fun p hp => by
      simp only [List.mem_cons, List.not_mem_nil, or_false] at hp
      rcases hp with rfl
      · exact ⟨_, PySem.W.mg_of X G aC_NoLetter, ix_NoLetter, kt_NoLetter_NoWords⟩)⟩, ⟨_, PySem.W.mg_of X G aC_NotAgreed, yk_NotAgreed, (fun p hp => by
      simp only [List.mem_cons, List.not_mem_nil, or_false] at hp
      rcases hp with rfl
      · exact ⟨_, PySem.W.mg_of X G aC_NoLetter, ix_NoLetter, kt_NoLetter_NotAgreed⟩)⟩, ⟨_, PySem.W.mg_of X G aC_NoLetter, xfB_ok xb_NoLetter, xn_NoLetter_number⟩, exTab_mk (PySem.W.mg_of X G aC_NoLetter) (ext_cons (PySem.W.mg_of X G aC_NoLetter) (xm_NoLetter_NoLetter.trans (by decide +kernel)) ext_nil), trivial⟩,
   topDef_mk X G a0 l0 c0 k0 fun _ _ _ _ _ _ us hl => match us, hl with | [_], _ => rfl,
   topDef_mk X G a1 l1 c1 k1 fun _ _ _ _ _ _ us hl => match us, hl with | [_, _], _ => rfl,
   topDef_mk X G a2 l2 c2 k2 fun _ _ _ _ _ _ us hl => match us, hl with | [_, _], _ => rfl,
   topDef_mk X G a3 l3 c3 k3 fun _ _ _ _ _ _ us hl => match us, hl with | [_], _ => rfl,
   topDef_mk X G a4 l4 c4 k4 fun _ _ _ _ _ _ us hl => match us, hl with | [_], _ => rfl,
   topDef_mk X G a5 l5 c5 k5 fun _ _ _ _ _ _ us hl => match us, hl with | [_], _ => rfl,
   topDef_mk X G a6 l6 c6 k6 fun _ _ _ _ _ _ us hl => match us, hl with | [_, _], _ => rfl,
   ⟨_, _, _, PySem.W.mg_of X G aC_Post, ⟨pg_Post, hd_Post, po_Post, sa_Post⟩, ⟨a7, i7, k7⟩, fun_mk (st := s_Post_look_number) l7 c7 k7, ((fun_mk (st := s_Post_look_number) l7 c7 k7).binds fun _ _ _ _ _ _ us hl => match us, hl with | [_, _], _ => rfl)⟩,
   ⟨_, _, _, PySem.W.mg_of X G aC_Post, ⟨pg_Post, hd_Post, po_Post, sa_Post⟩, ⟨a8, i8, k8⟩, fun_mk (st := s_Post_carry) l8 c8 k8, ((fun_mk (st := s_Post_carry) l8 c8 k8).binds fun _ _ _ _ _ _ us hl => match us, hl with | [_, _], _ => rfl)⟩,
   ⟨_, _, _, PySem.W.mg_of X G aC_Post, ⟨pg_Post, hd_Post, po_Post, sa_Post⟩, ⟨a9, i9, k9⟩, fun_mk (st := s_Post_send) l9 c9 k9, ((fun_mk (st := s_Post_send) l9 c9 k9).binds fun _ _ _ _ _ _ us hl => match us, hl with | [_, _], _ => rfl)⟩,
   ⟨_, _, _, PySem.W.mg_of X G aC_Post, ⟨pg_Post, hd_Post, po_Post, sa_Post⟩, ⟨a10, i10, k10⟩, fun_mk (st := s_Post_double) l10 c10 k10, ((fun_mk (st := s_Post_double) l10 c10 k10).binds fun _ _ _ _ _ _ us hl => match us, hl with | [_, _], _ => rfl)⟩,
   ⟨_, _, _, PySem.W.mg_of X G aC_Post, ⟨pg_Post, hd_Post, po_Post, sa_Post⟩, ⟨a11, i11, k11⟩, fun_mk (st := s_Post_lose) l11 c11 k11, ((fun_mk (st := s_Post_lose) l11 c11 k11).binds fun _ _ _ _ _ _ us hl => match us, hl with | [_, _], _ => rfl)⟩,
   topDef_mk X G a12 l12 c12 k12 fun _ _ _ _ _ _ us hl => match us, hl with | [_, _], _ => rfl,
   ⟨_, _, _, PySem.W.mg_of X G aC_Post, ⟨pg_Post, hd_Post, po_Post, sa_Post⟩, ⟨a13, i13, k13⟩, fun_mk (st := s_Post_under_way) l13 c13 k13, ((fun_mk (st := s_Post_under_way) l13 c13 k13).binds fun _ _ _ _ _ _ us hl => match us, hl with | [_], _ => rfl)⟩,
   ⟨_, _, _, PySem.W.mg_of X G aC_Post, ⟨pg_Post, hd_Post, po_Post, sa_Post⟩, ⟨a14, i14, k14⟩, fun_mk (st := s_Post___len__) l14 c14 k14, ((fun_mk (st := s_Post___len__) l14 c14 k14).binds fun _ _ _ _ _ _ us hl => match us, hl with | [_], _ => rfl)⟩,
   topDef_mk X G a15 l15 c15 k15 fun _ _ _ _ _ _ us hl => match us, hl with | [_, _], _ => rfl,
   ⟨_, _, _, PySem.W.mg_of X G aC_Post, ⟨mk_Post, a16, i16, kc_Post⟩, fun_mk (st := s_Post___init__) l16 c16 k16, ((fun_mk (st := s_Post___init__) l16 c16 k16).binds fun _ _ _ _ _ _ us hl => match us, hl with | [_], _ => rfl)⟩,
   topDef_mk X G a17 l17 c17 k17 fun _ _ _ _ _ _ us hl => match us, hl with | [_], _ => rfl,
   topDef_mk X G a18 l18 c18 k18 fun _ _ _ _ _ _ us hl => match us, hl with | [_], _ => rfl,
   ⟨_, _, _, PySem.W.mg_of X G aC_NoLetter, ⟨⟨_, _, EV.xb_Key, xi_NoLetter, xo_NoLetter⟩, xs_NoLetter, xfB_ok xb_NoLetter, (fun f hf => by
      simp only [List.mem_cons, List.not_mem_nil, or_false] at hf
      rcases hf with rfl
      · exact xn_NoLetter_number), xy_NoLetter, xk_NoLetter⟩, ax_NoLetter, tx_NoLetter, fun_mk (st := s_NoLetter___init__) lx_NoLetter cx_NoLetter kx_NoLetter, ((fun_mk (st := s_NoLetter___init__) lx_NoLetter cx_NoLetter kx_NoLetter).binds fun _ _ _ _ _ _ us hl => match us, hl with | [_, _], _ => rfl)⟩⟩
end LAW
set_option maxRecDepth 100000
set_option autoImplicit false
set_option maxHeartbeats 4000000
set_option linter.all false
namespace LAW
open PySem EV L2 PyProof.Rows
variable {E : ErP} {Ee : ErS}
local macro_rules | `(tactic| walk_at "gdl") => `(tactic| first
  | with_reducible exact Gd.fitw gd_non (by decide) | with_reducible exact Gd.fitw gd_bl (by decide)
  | ((with_reducible refine Gd.fitw (gd_int ?h) ?c); (case h => omega); (case c => decide))
  | ((with_reducible refine Gd.fit (N := ?N) (n := ?n) (w := ?w) ?h ?a ?b ?c); (case h => assumption); (case a => decide); (case b => decide); (case c => decide))
  | ((with_reducible refine Gd.fitw (gd_str (w := 50) ?h ?hw) ?c); (case h => decide +kernel); (case hw => decide +kernel); (case c => decide)))
local macro_rules | `(tactic| walk_at "gd") => `(tactic| first
  | walk_at "gdl"
  | ((with_reducible refine Gd.tupP ?h ?q); (case h => decide); (case q => walk_at "gds")) | ((with_reducible refine Gd.lstP ?h ?q); (case h => decide); (case q => walk_at "gds")))
local macro_rules | `(tactic| walk_at "gds") => `(tactic| first
  | with_reducible exact Gds.nil
  | ((with_reducible refine Gds.consL ?h1 ?h3 ?h2); (case h1 => walk_at "gdl"); (case h3 => decide); (case h2 => walk_at "gds"))
  | ((with_reducible refine Gds.consH ?h1 ?h3 ?h2); (case h1 => walk_at "gd"); (case h3 => decide); (case h2 => walk_at "gds")))
local macro_rules | `(tactic| walk_at "shw") => `(tactic| ((with_reducible refine go_shw (N := 10 ^ 12) (n := 64) (w := 1000000) ?h (Nat.le_refl _) (Nat.le_refl _) (Nat.le_refl _) ?hq); (case h => walk_at "gd")))
local macro_rules | `(tactic| walk_at "same") => `(tactic| first
  | ((with_reducible refine go_neG ?h ?hq); (case h => walk_at "gd")) | ((with_reducible refine go_eqG ?h ?hq); (case h => walk_at "gd")))
local macro_rules | `(tactic| walk_at "len") => `(tactic| first
  | (simp only [List.length_cons, List.length_nil, Nat.reduceAdd, Nat.reduceLeDiff]; done)
  | (simp only [List.length_cons, List.length_nil, List.length_append, List.length_map]; omega) | omega)
local macro_rules | `(tactic| walk_at "cell") => `(tactic| first
  | assumption
  | ((with_reducible refine get_set (o := ?oo) ?hh); (case hh => walk_at "cell"))
  | exact UrnL.get ‹_› (by repeat' (first | with_reducible exact List.mem_cons_self | with_reducible refine List.mem_cons_of_mem _ ?_)))
local macro_rules | `(tactic| walk_at "lkf") => `(tactic| repeat (first | with_reducible exact lkF_nil | with_reducible exact lkF_hd | with_reducible refine lkF_tl (by decide +kernel) ?_))
local macro_rules | `(tactic| walk_at "tab") => `(tactic| repeat (first | with_reducible exact tab_hd | with_reducible refine tab_tl (by decide +kernel) ?_))
local macro_rules | `(tactic| walk_at "lkd") => `(tactic| repeat (first | with_reducible exact lkd_hd | with_reducible refine lkd_tl (by decide +kernel) ?_))
local macro_rules | `(tactic| walk_at "ndp") => `(tactic| first | with_reducible exact nd_hd | ((with_reducible refine nd_tl (r' := ?r2) ?hd ?hq); (case hd => decide +kernel); (case hq => walk_at "ndp")))
local macro_rules | `(tactic| walk_at "mem") => `(tactic| repeat (first | with_reducible exact List.mem_cons_self | with_reducible refine List.mem_cons_of_mem _ ?_))
local macro_rules | `(tactic| walk_at "evo") => `(tactic| ((with_reducible refine go_setRL (ds := ?ds) (k := ?k) ?h ?hi ?hq); (case h => walk_at "cell"); (case hi => exact rfl)))
local macro_rules | `(tactic| walk_at "evo") => `(tactic| ((with_reducible refine go_ixR (ds := ?ds) (d := ?d) ?h ?hi ?hq); (case h => walk_at "cell"); (case hi => exact rfl)))
local macro_rules | `(tactic| walk_at "evo") => `(tactic| ((with_reducible refine go_ds (kvs := ?kvs) ?l ?e ?hq); (case l => exact rfl); (case e => (simp only [zipS_cons, zipS_nil]; exact rfl))))
local macro_rules | `(tactic| walk_at "evo") => `(tactic| ((with_reducible refine go_disp ?hq)))
local macro_rules | `(tactic| walk_at "evo") => `(tactic| ((with_reducible refine go_setRS (kvs := ?kvs) (kvs' := ?kv2) ?h ?hz ?he ?hq); (case h => walk_at "cell"); (case hz => walk_at "lt"); (case he => walk_at "ndp")))
local macro_rules | `(tactic| walk_at "evo") => `(tactic| ((with_reducible refine go_ixS (t := ?tt) (kvs := ?kvs) (d := ?d) ?h ?hl ?hq); (case h => walk_at "cell"); (case hl => walk_at "lkd")))
local macro_rules | `(tactic| walk_at "evo") => `(tactic| ((with_reducible refine go_listR (ds := ?ds) ?h ?hq); (case h => walk_at "cell")))
local macro_rules | `(tactic| walk_at "evo") => `(tactic| ((with_reducible refine go_tupR (ds := ?ds) ?h ?hq); (case h => walk_at "cell")))
local macro_rules | `(tactic| walk_at "evo") => `(tactic| ((with_reducible refine go_lenRD (kvs := ?kvs) ?h ?hq); (case h => walk_at "cell")))
local macro_rules | `(tactic| walk_at "evo") => `(tactic| ((with_reducible refine go_lenR (ds := ?ds) ?h ?hq); (case h => walk_at "cell")))
local macro_rules | `(tactic| walk_at "evo") => `(tactic| with_reducible refine go_isntN6 ?_)
local macro_rules | `(tactic| walk_at "evo") => `(tactic| with_reducible refine go_isntN5 ?_)
local macro_rules | `(tactic| walk_at "evo") => `(tactic| with_reducible refine go_isntN4 ?_)
local macro_rules | `(tactic| walk_at "evo") => `(tactic| with_reducible refine go_isntN3 ?_)
local macro_rules | `(tactic| walk_at "evo") => `(tactic| with_reducible refine go_isntN2 ?_)
local macro_rules | `(tactic| walk_at "evo") => `(tactic| with_reducible refine go_isntN1 ?_)
local macro_rules | `(tactic| walk_at "evo") => `(tactic| with_reducible refine go_isN6 ?_)
local macro_rules | `(tactic| walk_at "evo") => `(tactic| with_reducible refine go_isN5 ?_)
local macro_rules | `(tactic| walk_at "evo") => `(tactic| with_reducible refine go_isN4 ?_)
local macro_rules | `(tactic| walk_at "evo") => `(tactic| with_reducible refine go_isN3 ?_)
local macro_rules | `(tactic| walk_at "evo") => `(tactic| with_reducible refine go_isN2 ?_)
local macro_rules | `(tactic| walk_at "evo") => `(tactic| with_reducible refine go_isN1 ?_)
local macro_rules | `(tactic| walk_at "evo") => `(tactic| with_reducible refine go_toRefD ?_)
local macro_rules | `(tactic| walk_at "evo") => `(tactic| with_reducible refine go_dnew ?_)
local macro_rules | `(tactic| walk_at "evo") => `(tactic| ((with_reducible refine go_isDR (kvs := ?kvs) (k := ?k) ?h ?hq); (case h => walk_at "cell")))
local macro_rules | `(tactic| walk_at "evo") => `(tactic| with_reducible refine go_vBd ?_)
local macro_rules | `(tactic| walk_at "evo") => `(tactic| ((with_reducible refine go_appD (ds := ?ds) ?h ?hz ?hq); (case h => walk_at "cell"); try (case hz => walk_at "lt")))
local macro_rules | `(tactic| walk_at "evo") => `(tactic| ((with_reducible refine go_isLR (ds := ?ds) ?h ?hq); (case h => walk_at "cell")))
local macro_rules | `(tactic| walk_at "evo") => `(tactic| with_reducible refine go_vBm ?_)
local macro_rules | `(tactic| walk_at "evo") => `(tactic| ((with_reducible refine go_augF (C := ?C) (fs := ?fs) (i := ?i) ?h ?hm ?hl ?hz ?hq); (case h => walk_at "cell"); (case hm => walk_at "mem"); (case hl => walk_at "lkf"); (case hz => walk_at "lt")))
local macro_rules | `(tactic| walk_at "evo") => `(tactic| with_reducible refine go_fldA ?_)
local macro_rules | `(tactic| walk_at "evo") => `(tactic| with_reducible refine go_gN ?_)
local macro_rules | `(tactic| walk_at "evo") => `(tactic| with_reducible refine go_gsN ?_)
local macro_rules | `(tactic| walk_at "evo") => `(tactic| with_reducible refine go_gsC ?_)
local macro_rules | `(tactic| walk_at "evo") => `(tactic| ((with_reducible refine go_gTp ?hl ?hq); (case hl => exact rfl)))
local macro_rules | `(tactic| walk_at "evo") => `(tactic| ((with_reducible refine go_setF (C := ?C) (fs := ?fs) ?h ?hm ?hz ?hq); (case h => walk_at "cell"); (case hm => walk_at "mem"); (case hz => walk_at "lt")))
local macro_rules | `(tactic| walk_at "evo") => `(tactic| with_reducible refine ns_nil ?_)
local macro_rules | `(tactic| walk_at "evo") => `(tactic| with_reducible refine ns_tl (by decide +kernel) ?_)
local macro_rules | `(tactic| walk_at "evo") => `(tactic| with_reducible refine ns_hd ?_)
local macro_rules | `(tactic| walk_at "evo") => `(tactic| with_reducible refine go_gFld ?_)
local macro_rules | `(tactic| walk_at "evo") => `(tactic| ((with_reducible refine go_fld (C := ?C) (fs := ?fs) (d := ?d) ?h ?hm ?hl ?hq); (case h => walk_at "cell"); (case hm => walk_at "mem"); (case hl => walk_at "lkf")))
local macro_rules | `(tactic| walk_at "evo") => `(tactic| ((with_reducible refine go_methD (C := ?C) (fs := ?fs) (ps := ?ps) (F := ?F) ?h ?hl ?ht ?hq); (case h => walk_at "cell"); (case hl => walk_at "lkf"); (case ht => walk_at "tab")))
local macro_rules | `(tactic| walk_at "evo") => `(tactic| ((with_reducible refine lcp_cons (bs := ?bs) ?hb ?hq); (case hb => exact rfl)))
local macro_rules | `(tactic| walk_at "evo") => `(tactic| ((with_reducible refine lcp_consY (bs := ?bs) ?hb ?hq); (case hb => exact rfl)))
local macro_rules | `(tactic| walk_at "evo") => `(tactic| with_reducible refine lcp_nil ?_)
local macro_rules | `(tactic| walk_at "evo") => `(tactic| ((with_reducible refine go_mlen ?h ?hq); (case h => exact rfl)))
local macro_rules | `(tactic| walk_at "evo") => `(tactic| with_reducible refine go_vMeth ?_)
local macro_rules | `(tactic| walk_at "evo") => `(tactic| ((with_reducible refine go_ext1 ?h ?hq); (case h => walk_at "len")))
local macro_rules | `(tactic| walk_at "evo") => `(tactic| ((with_reducible refine go_ext (ds := ?ds) ?h ?hq); (case h => exact rfl)))
local macro_rules | `(tactic| walk_at "evo") => `(tactic| with_reducible refine go_par3e ?_)
local macro_rules | `(tactic| walk_at "evo") => `(tactic| with_reducible refine go_par3 ?_)
local macro_rules | `(tactic| walk_at "evo") => `(tactic| with_reducible refine go_inK ?_)
local macro_rules | `(tactic| walk_at "evo") => `(tactic| ((with_reducible refine go_gTpK ?hl ?hq); (case hl => exact rfl)))
local macro_rules | `(tactic| walk_at "evo") => `(tactic| with_reducible refine go_revdT ?_)
local macro_rules | `(tactic| walk_at "evo") => `(tactic| with_reducible refine go_revdL ?_)
local macro_rules | `(tactic| walk_at "evo") => `(tactic| with_reducible refine go_zipT ?_)
local macro_rules | `(tactic| walk_at "evo") => `(tactic| with_reducible refine go_zipL ?_)
local macro_rules | `(tactic| walk_at "evo") => `(tactic| with_reducible refine go_enumT ?_)
local macro_rules | `(tactic| walk_at "evo") => `(tactic| with_reducible refine go_enumL ?_)
local macro_rules | `(tactic| walk_at "evo") => `(tactic| ((with_reducible refine go_addT ?h ?hq); (case h => walk_at "len")))
local macro_rules | `(tactic| walk_at "evo") => `(tactic| ((with_reducible refine go_addL ?h ?hq); (case h => walk_at "len")))
local macro_rules | `(tactic| walk_at "evo") => `(tactic| ((with_reducible refine go_lockR (ds := ?ds) ?h ?hq); (case h => walk_at "cell")))
local macro_rules | `(tactic| walk_at "evo") => `(tactic| with_reducible refine go_vLock ?_)
local macro_rules | `(tactic| walk_at "evo") => `(tactic| with_reducible refine go_par2 ?_)
local macro_rules | `(tactic| walk_at "evo") => `(tactic| with_reducible refine go_par ?_)
local macro_rules | `(tactic| walk_at "evo") => `(tactic| ((with_reducible refine go_isiR (ds := ?ds) ?h ?hq); (case h => walk_at "cell")))
local macro_rules | `(tactic| walk_at "evo") => `(tactic| ((with_reducible refine go_le1000 ?h ?hq); (case h => walk_at "len")))
local macro_rules | `(tactic| walk_at "lt") => `(tactic| first
  | (simp only [List.length_cons, List.length_nil, Nat.reduceAdd, Nat.reduceLTLE, Nat.reduceLeDiff]; done) | walk_at "len")
local macro_rules | `(tactic| walk_at "ev1b") => `(tactic| walk_at "ev2")
local macro_rules | `(tactic| walk_at "ev1b") => `(tactic| (with_reducible refine And.intro (fun hc => ?_) (fun hc => ?_)))
local macro_rules | `(tactic| walk_at "ev1b") => `(tactic| with_reducible refine go_nd (fun hc => ?_) (fun hc => ?_))
local macro_rules | `(tactic| walk_at "ev1b") => `(tactic| ((with_reducible refine go_ndf ?hp ?hq); (case hp => first | (with_reducible rfl) | omega | decide | decide +kernel)))
local macro_rules | `(tactic| walk_at "ev1b") => `(tactic| ((with_reducible refine go_ndt ?hp ?hq); (case hp => first | (with_reducible rfl) | omega | decide | decide +kernel)))
local macro_rules | `(tactic| walk_at "ev1b") => `(tactic| with_reducible refine go_d (fun hc => ?_) (fun hc => ?_))
local macro_rules | `(tactic| walk_at "ev1b") => `(tactic| ((with_reducible refine go_df ?hp ?hq); (case hp => first | (with_reducible rfl) | omega | decide | decide +kernel)))
local macro_rules | `(tactic| walk_at "ev1b") => `(tactic| ((with_reducible refine go_dt ?hp ?hq); (case hp => first | (with_reducible rfl) | omega | decide | decide +kernel)))
local macro_rules | `(tactic| walk_at "ev1b") => `(tactic| with_reducible refine go_nff ?_)
local macro_rules | `(tactic| walk_at "ev1b") => `(tactic| with_reducible refine go_ntt ?_)
local macro_rules | `(tactic| walk_at "ev1b") => `(tactic| with_reducible refine go_ff ?_)
local macro_rules | `(tactic| walk_at "ev1b") => `(tactic| with_reducible refine go_tt ?_)
local macro_rules | `(tactic| walk_at "ev1b") => `(tactic| with_reducible refine go_addCL (by omega) ?_)
local macro_rules | `(tactic| walk_at "ev1b") => `(tactic| with_reducible refine go_addCT (by omega) ?_)
local macro_rules | `(tactic| walk_at "ev1b") => `(tactic| with_reducible refine go_slL ?_)
local macro_rules | `(tactic| walk_at "ev1b") => `(tactic| with_reducible refine go_slT ?_)
local macro_rules | `(tactic| walk_at "ev1b") => `(tactic| ((with_reducible refine go_rep ?h1 ?h2 ?h3 ?hq); (case h1 => simp); (case h2 => omega); (case h3 => (simp only [List.length_cons, List.length_nil]; omega))))
local macro_rules | `(tactic| walk_at "ev1b") => `(tactic| ((with_reducible refine go_lrng1 ?hn ?hq); (case hn => omega)))
local macro_rules | `(tactic| walk_at "ev1b") => `(tactic| ((with_reducible refine go_lrng2 ?hn ?hq); (case hn => omega)))
local macro_rules | `(tactic| walk_at "ev1b") => `(tactic| ((with_reducible refine go_star (ds := ?ds) (bs := ?bs) ?hd ?hb ?hh ?hq); (case hd => exact rfl); (case hb => (simp only [List.length_cons, List.length_nil]; omega)); (case hh => exact rfl)))
local macro_rules | `(tactic| walk_at "ev1b") => `(tactic| ((with_reducible refine go_lenEq ?hh ?hq); (case hh => exact rfl)))
local macro_rules | `(tactic| walk_at "ev1b") => `(tactic| ((with_reducible refine go_callL (y := ?y) (ps := ?ps) (F := ?F) ?hh ?ht ?hq); (case hh => exact rfl); (case ht => repeat (first | with_reducible exact tab_hd | with_reducible refine tab_tl (by decide +kernel) ?_))))
local macro_rules | `(tactic| walk_at "ev1b") => `(tactic| with_reducible refine go_kdIn ?_)
local macro_rules | `(tactic| walk_at "ev1b") => `(tactic| ((with_reducible refine go_kdIx (f := ?f) ?hh ?hq); (case hh => exact rfl)))
local macro_rules | `(tactic| walk_at "ev1b") => `(tactic| ((with_reducible refine go_addSL ?hn ?hq); (case hn => first | (simp only [List.length_cons, List.length_nil, List.length_append]; omega) | omega)))
local macro_rules | `(tactic| walk_at "ev1b") => `(tactic| with_reducible refine go_fn6 ?_)
local macro_rules | `(tactic| walk_at "ev1b") => `(tactic| with_reducible refine go_fn5 ?_)
local macro_rules | `(tactic| walk_at "ev1b") => `(tactic| with_reducible refine go_fn4 ?_)
local macro_rules | `(tactic| walk_at "ev1b") => `(tactic| with_reducible refine go_fn3 ?_)
local macro_rules | `(tactic| walk_at "ev1b") => `(tactic| with_reducible refine go_fn2 ?_)
local macro_rules | `(tactic| walk_at "ev1b") => `(tactic| with_reducible refine go_fn1 ?_)
local macro_rules | `(tactic| walk_at "ev1b") => `(tactic| ((with_reducible refine go_pow ?hn ?hm ?hq); try (case hn => decide); try (case hm => first | decide | assumption)))
local macro_rules | `(tactic| walk_at "ev1b") => `(tactic| with_reducible refine go_mul9 ?_)
local macro_rules | `(tactic| walk_at "ev1b") => `(tactic| with_reducible refine go_pow8 ?_)
local macro_rules | `(tactic| walk_at "ev1b") => `(tactic| ((with_reducible refine go_mul ?hn ?hq); try (case hn => first | decide | assumption | (exact lg2 (by omega) (by omega)))))
local macro_rules | `(tactic| walk_at "ev1b") => `(tactic| with_reducible refine go_mul9 ?_)
local macro_rules | `(tactic| walk_at "ev1b") => `(tactic| ((with_reducible refine go_fdiv ?hn ?hm ?hq); try (case hn => first | decide | omega); try (case hm => first | decide | assumption | exact lg1 (by omega))))
local macro_rules | `(tactic| walk_at "ev1b") => `(tactic| ((with_reducible refine go_mod ?hn ?hq); try (case hn => first | decide | omega)))
local macro_rules | `(tactic| walk_at "ev1b") => `(tactic| ((with_reducible refine go_ix (d := ?d) ?hh ?hq); (case hh => first | assumption | exact rfl)))
local macro_rules | `(tactic| walk_at "ev1b") => `(tactic| with_reducible refine go_slice ?_)
local macro_rules | `(tactic| walk_at "ev1b") => `(tactic| with_reducible refine go_soP ?_)
local macro_rules | `(tactic| walk_at "ev1b") => `(tactic| with_reducible refine go_noP ?_)
local macro_rules | `(tactic| walk_at "ev1b") => `(tactic| with_reducible refine go_revT ?_)
local macro_rules | `(tactic| walk_at "ev1b") => `(tactic| with_reducible refine go_revL ?_)
local macro_rules | `(tactic| walk_at "ev1b") => `(tactic| ((with_reducible refine go_isi2F (a := ?a) ?hh ?hT ?hb ?hq); (case hh => exact rfl); (case hT => decide); (case hb => decide +kernel)))
local macro_rules | `(tactic| walk_at "ev1b") => `(tactic| ((with_reducible refine go_isi2T (a := ?a) ?hh ?hT ?hb ?hq); (case hh => exact rfl); (case hT => decide); (case hb => decide +kernel)))
local macro_rules | `(tactic| walk_at "ev1b") => `(tactic| ((with_reducible refine go_isiF (a := ?a) ?hh ?hT ?hb ?hq); (case hh => exact rfl); (case hT => decide); (case hb => decide +kernel)))
local macro_rules | `(tactic| walk_at "ev1b") => `(tactic| ((with_reducible refine go_isiT (a := ?a) ?hh ?hT ?hb ?hq); (case hh => exact rfl); (case hT => decide); (case hb => decide +kernel)))
local macro_rules | `(tactic| walk_at "ev1b") => `(tactic| with_reducible refine go_tupT ?_)
local macro_rules | `(tactic| walk_at "ev1b") => `(tactic| with_reducible refine go_tupL ?_)
local macro_rules | `(tactic| walk_at "ev1b") => `(tactic| with_reducible refine go_listT ?_)
local macro_rules | `(tactic| walk_at "ev1b") => `(tactic| with_reducible refine go_listL ?_)
local macro_rules | `(tactic| walk_at "ev1b") => `(tactic| with_reducible refine go_lenC ?_)
local macro_rules | `(tactic| walk_at "ev1b") => `(tactic| with_reducible refine go_lenT ?_)
local macro_rules | `(tactic| walk_at "ev1b") => `(tactic| with_reducible refine go_lenL ?_)
local macro_rules | `(tactic| walk_at "ev1b") => `(tactic| with_reducible refine go_intB ?_)
local macro_rules | `(tactic| walk_at "ev1b") => `(tactic| with_reducible refine go_intI ?_)
local macro_rules | `(tactic| walk_at "ev1b") => `(tactic| with_reducible refine go_min2 ?_)
local macro_rules | `(tactic| walk_at "ev1b") => `(tactic| with_reducible refine go_max2 ?_)
local macro_rules | `(tactic| walk_at "ev1b") => `(tactic| with_reducible refine go_abs ?_)
local macro_rules | `(tactic| walk_at "ev1b") => `(tactic| with_reducible refine go_seqT ?_)
local macro_rules | `(tactic| walk_at "ev1b") => `(tactic| with_reducible refine go_seqL ?_)
local macro_rules | `(tactic| walk_at "ev1b") => `(tactic| ((with_reducible refine go_frzV (d := ?d) ?hh ?hq); (case hh => exact rfl)))
local macro_rules | `(tactic| walk_at "ev1b") => `(tactic| ((with_reducible refine go_frzO (ds := ?ds) ?hh ?hq); (case hh => exact rfl)))
local macro_rules | `(tactic| walk_at "ev1b") => `(tactic| ((with_reducible refine go_lenO (ds := ?ds) ?hh ?hq); (case hh => exact rfl)))
local macro_rules | `(tactic| walk_at "ev1b") => `(tactic| ((with_reducible refine go_ixO (ds := ?ds) ?hh ?hq); (case hh => exact rfl)))
local macro_rules | `(tactic| walk_at "ev1b") => `(tactic| ((with_reducible refine go_appN (ds := ?ds) ?hh ?hn ?hq); (case hh => exact rfl); try (case hn => (first | (simp only [List.length_cons, List.length_nil, Nat.reduceAdd, Nat.reduceLTLE, Nat.reduceLeDiff]; done) | walk_at "len"))))
local macro_rules | `(tactic| walk_at "ev1b") => `(tactic| with_reducible refine go_for ?_)
local macro_rules | `(tactic| walk_at "ev1b") => `(tactic| with_reducible refine go_v1 ?_)
local macro_rules | `(tactic| walk_at "ev1b") => `(tactic| with_reducible refine go_expr ?_)
local macro_rules | `(tactic| walk_at "ev1b") => `(tactic| with_reducible refine go_retN ?_)
local macro_rules | `(tactic| walk_at "ev1b") => `(tactic| with_reducible refine go_nil ?_)
local macro_rules | `(tactic| walk_at "ev1b") => `(tactic| with_reducible refine go_subR ?_)
local macro_rules | `(tactic| walk_at "ev1b") => `(tactic| ((with_reducible refine go_pat (bs := ?bs) ?hh ?hq); (case hh => exact rfl)))
local macro_rules | `(tactic| walk_at "ev1b") => `(tactic| with_reducible refine go_asg ?_)
local macro_rules | `(tactic| walk_at "ev1b") => `(tactic| with_reducible refine go_setS ?_)
local macro_rules | `(tactic| walk_at "ev1b") => `(tactic| ((with_reducible refine go_mkLst ?hn ?hq); (case hn => walk_at "len")))
local macro_rules | `(tactic| walk_at "ev1b") => `(tactic| ((with_reducible refine go_mkTup ?hn ?hq); (case hn => walk_at "len")))
local macro_rules | `(tactic| walk_at "ev1b") => `(tactic| with_reducible refine go_toRef ?_)
local macro_rules | `(tactic| walk_at "ev1b") => `(tactic| with_reducible refine go_frz2 ?_)
local macro_rules | `(tactic| walk_at "ev1b") => `(tactic| with_reducible refine go_frz ?_)
local macro_rules | `(tactic| walk_at "ev1b") => `(tactic| with_reducible refine go_vSl ?_)
local macro_rules | `(tactic| walk_at "ev1b") => `(tactic| with_reducible refine go_vRef ?_)
local macro_rules | `(tactic| walk_at "ev1b") => `(tactic| with_reducible refine go_vFrz ?_)
local macro_rules | `(tactic| walk_at "ev1b") => `(tactic| with_reducible refine go_chain ?_)
local macro_rules | `(tactic| walk_at "ev1b") => `(tactic| with_reducible refine go_vIf ?_)
local macro_rules | `(tactic| walk_at "ev1b") => `(tactic| with_reducible refine go_vNotV ?_)
local macro_rules | `(tactic| walk_at "ev1b") => `(tactic| with_reducible refine go_vOrV ?_)
local macro_rules | `(tactic| walk_at "ev1b") => `(tactic| with_reducible refine go_vAndV ?_)
local macro_rules | `(tactic| walk_at "ev1b") => `(tactic| with_reducible refine go_vOr ?_)
local macro_rules | `(tactic| walk_at "ev1b") => `(tactic| with_reducible refine go_vAnd ?_)
local macro_rules | `(tactic| walk_at "ev1b") => `(tactic| with_reducible refine go_vNot ?_)
local macro_rules | `(tactic| walk_at "ev1b") => `(tactic| with_reducible refine go_isntB ?_)
local macro_rules | `(tactic| walk_at "ev1b") => `(tactic| with_reducible refine go_isB ?_)
local macro_rules | `(tactic| walk_at "ev1b") => `(tactic| with_reducible refine go_neS ?_)
local macro_rules | `(tactic| walk_at "ev1b") => `(tactic| with_reducible refine go_eqS ?_)
local macro_rules | `(tactic| walk_at "ev1b") => `(tactic| with_reducible refine go_neI ?_)
local macro_rules | `(tactic| walk_at "ev1b") => `(tactic| with_reducible refine go_eqI ?_)
local macro_rules | `(tactic| walk_at "ev1b") => `(tactic| with_reducible refine go_ge ?_)
local macro_rules | `(tactic| walk_at "ev1b") => `(tactic| with_reducible refine go_gt ?_)
local macro_rules | `(tactic| walk_at "ev1b") => `(tactic| with_reducible refine go_le ?_)
local macro_rules | `(tactic| walk_at "ev1b") => `(tactic| with_reducible refine go_lt ?_)
local macro_rules | `(tactic| walk_at "ev1b") => `(tactic| with_reducible refine go_neg ?_)
local macro_rules | `(tactic| walk_at "ev1b") => `(tactic| with_reducible refine go_sub ?_)
local macro_rules | `(tactic| walk_at "ev1b") => `(tactic| with_reducible refine go_add ?_)
local macro_rules | `(tactic| walk_at "ev1b") => `(tactic| with_reducible refine go_in2 ?_)
local macro_rules | `(tactic| walk_at "ev1b") => `(tactic| with_reducible refine go_in ?_)
local macro_rules | `(tactic| walk_at "ev1b") => `(tactic| with_reducible refine go_bl ?_)
local macro_rules | `(tactic| walk_at "ev1b") => `(tactic| with_reducible refine go_ret ?_)
local macro_rules | `(tactic| walk_at "ev1b") => `(tactic| with_reducible refine go_vB ?_)
local macro_rules | `(tactic| walk_at "ev1b") => `(tactic| with_reducible refine go_if ?_)
local macro_rules | `(tactic| walk_at "ev1b") => `(tactic| with_reducible refine go_set ?_)
local macro_rules | `(tactic| walk_at "ev1b") => `(tactic| ((with_reducible refine go_name (d := ?d) ?hh ?hq); (case hh => exact rfl)))
local macro_rules | `(tactic| walk_at "ev1b") => `(tactic| with_reducible refine go_vA ?_)
local macro_rules | `(tactic| walk_at "ev1b") => `(tactic| with_reducible refine go_vNil ?_)
local macro_rules | `(tactic| walk_at "ev1b") => `(tactic| with_reducible refine go_vCons ?_)
local macro_rules | `(tactic| walk_at "ev1b") => `(tactic| with_reducible refine go_v2 ?_)
local macro_rules | `(tactic| walk_at "ev1b") => `(tactic| with_reducible refine go_c ?_)
local macro_rules | `(tactic| walk_at "ev1b") => `(tactic| with_reducible refine go_seq ?_)
local macro_rules | `(tactic| walk_at "ev1b") => `(tactic| walk_at "ev0")
local macro_rules | `(tactic| walk_at "nm") => `(tactic| ((with_reducible refine go_nm (env' := ?en) ?hh ?hq); (case hh => first | (dsimp only [List.set, bindE, setAll, List.foldl, List.map, List.cons_append, List.nil_append, List.replicate, wipeE]; exact rfl) | exact rfl)))
local macro_rules | `(tactic| walk_at "ev1") => `(tactic| walk_at "ev1b")
local macro_rules | `(tactic| walk_at "ev1") => `(tactic| walk_at "nm")
local macro_rules | `(tactic| walk_at "ev") => `(tactic| repeat' (first | walk_at "ev1" | fail))
local macro_rules | `(tactic| walk_at "evs") => `(tactic| ((try walk_at "nm"); repeat' (first | walk_at "ev1b" | fail)))
/-- the urn at n, drawn from B times at most; the objects L stand besides -/
def UrnL (L : List (Nat × SObj)) (B : Nat) (st : Store) (n : Nat) : Prop := (∃ a b c : Int, st[n]? = some (.cell (.ol [.int a, .int b, .int c])) ∧ 0 ≤ a ∧ 0 ≤ b ∧ b < 2 ^ 64 ∧ 0 ≤ c ∧ c ≤ B) ∧ (∀ q ∈ L, st[q.1]? = some q.2) ∧ (n :: L.map (·.1)).Nodup
abbrev UrnAt (B : Nat) (st : Store) (n : Nat) : Prop := UrnL [] B st n
theorem at_ref {st : Store} {n : Nat} {ds : List D} (h : st[n]? = some (.cell (.ol ds))) (i : Int) : atD st (.ref n) i = atI ds i := by
  show (match st[n]? with | some (.cell (.ol ds)) => atI ds i | _ => none) = _
  rw [h]
theorem set_ref {st : Store} {n : Nat} {ds ds' : List D} (h : st[n]? = some (.cell (.ol ds))) {i : Int} {j : Nat} {d : D} (hj : ixN ds.length i = some j) (hd : ds.set j d = ds') : setR (.ref n) (.int i) d st = some (st.set n (.cell (.ol ds'))) := by
  subst hd
  unfold setR
  simp only [h, hj]
theorem at_mem {ds : List D} {i : Int} (h0 : 0 ≤ i) (h1 : i < ds.length) : ∃ d, atI ds i = some d ∧ d ∈ ds := by
  have hi : i.toNat < ds.length := by omega
  refine ⟨ds[i.toNat], ?_, List.getElem_mem hi⟩
  unfold atI ixN
  rw [if_pos h0, if_pos h1]
  show ds[i.toNat]? = _
  rw [List.getElem?_eq_getElem hi]
theorem get_set {st : Store} {n : Nat} {o o' : SObj} (h : st[n]? = some o) : (st.set n o')[n]? = some o' := by
  rw [List.getElem?_set_self (List.getElem?_eq_some_iff.mp h).1]
theorem nodup_sub {n : Nat} {L M : List (Nat × SObj)} (nd : (n :: L.map (·.1)).Nodup) (h : List.Sublist M L) : (n :: M.map (·.1)).Nodup := List.Sublist.nodup (List.Sublist.cons_cons n (h.map _)) nd
/-- a thing of the row that isn't the urn is put anew -/
theorem urn_keep {L : List (Nat × SObj)} {st : Store} {n : Nat} {o : SObj} (h : ∀ q ∈ L, st[q.1]? = some q.2) (nd : (n :: L.map (·.1)).Nodup) : ∀ q ∈ L, (st.set n o)[q.1]? = some q.2 := fun q hq => by
  have hne : n ≠ q.1 := fun e => (List.nodup_cons.mp nd).1 (by rw [e]; exact List.mem_map_of_mem hq)
  rw [List.getElem?_set_ne hne]
  exact h q hq
theorem draw {L : List (Nat × SObj)} {B n : Nat} {w : Int} {st : Store} {P : D → Store → Prop} (h : UrnL L B st n) (hB : B ≤ 1000000) (h1 : 1 ≤ w) (h2 : w < 2 ^ 40)
    (k : ∀ r st', 0 ≤ r → r < w → UrnL L (B + 1) st' n → st'.length = st.length → P (.int r) st') : (F__law_draw [.ref n, .int w] st).holds E P := by
  obtain ⟨⟨a, b, c, hst, ha, hb, hb2, hc, hc2⟩, hL, nd⟩ := h
  have g0 := (at_ref hst 0).trans (show _ = some (D.int a) from rfl)
  have g1 := (at_ref hst 1).trans (show _ = some (D.int b) from rfl)
  have g2 := (at_ref hst 2).trans (show _ = some (D.int c) from rfl)
  have hw : w.natAbs.log2 < 9000 := by
    have := log_lt (a := w) (k := 40) (by decide) (by omega)
    omega
  unfold F__law_draw
  refine go_fn rfl ?_
  unfold B__law_draw
  walk_at "ev"
  · rename_i hc0
    refine ⟨_, set_ref (ds' := [.int (a / w), .int b, .int c]) hst rfl rfl, ?_⟩
    walk_at "ev"
    refine k _ _ (Int.emod_nonneg _ (by omega)) (Int.emod_lt_of_pos _ (by omega)) ⟨⟨a / w, b, c, get_set hst, ?_, hb, hb2, hc, by omega⟩, urn_keep hL nd, nd⟩ (by simp)
    exact Int.ediv_nonneg ha (by omega)
  · have g3 := get_set (o' := .cell (.ol [.int a, .int b, .int (c + 1)])) hst
    refine ⟨_, set_ref (ds' := [.int a, .int b, .int (c + 1)]) hst rfl rfl, ?_⟩
    have hL2 := urn_keep (o := .cell (.ol [.int a, .int b, .int (c + 1)])) hL nd
    generalize hs2 : st.set n (.cell (.ol [.int a, .int b, .int (c + 1)])) = st2 at g3 hL2
    have g0 := (at_ref g3 0).trans (show _ = some (D.int a) from rfl)
    have g1 := (at_ref g3 1).trans (show _ = some (D.int b) from rfl)
    have g2 := (at_ref g3 2).trans (show _ = some (D.int (c + 1)) from rfl)
    have prime : ∀ x : Int, ∃ p, atD st2 (.tup [.int 2147483647, .int 2147483629, .int 2147483587, .int 2147483579, .int 2147483563, .int 2147483549, .int 2147483543]) (x % 7) = some (.int p) ∧ 0 < p ∧ p < 2 ^ 31 := by
      intro x
      obtain ⟨d, h1, h2⟩ := at_mem (ds := [.int 2147483647, .int 2147483629, .int 2147483587, .int 2147483579, .int 2147483563, .int 2147483549, .int 2147483543]) (i := x % 7) (by omega) (by show x % 7 < 7; omega)
      simp only [List.mem_cons, List.not_mem_nil, or_false] at h2
      rcases h2 with rfl | rfl | rfl | rfl | rfl | rfl | rfl <;> exact ⟨_, h1, by decide, by decide⟩
    obtain ⟨p, p1, p2, p3⟩ := prime (c + 1)
    obtain ⟨q, q1, q2, q3⟩ := prime (c + 1 + 3)
    have c1 : (c + 1).natAbs.log2 < 40 := log_lt (by decide) (by omega)
    walk_at "ev"
    · have b1 : (b * (2 * (c + 1) + 1)).natAbs < 2 ^ (64 + 40) := wide_lt (by omega) (by omega)
      have b2 : (6007 * (c + 1) * (c + 1)).natAbs < 2 ^ (40 + 40) := wide_lt (by omega) (by omega)
      have b3 : (b * (2 * (c + 1) + 1) + 6007 * (c + 1) * (c + 1) + 53).natAbs < 2 ^ 110 := by
        generalize b * (2 * (c + 1) + 1) = x at b1 ⊢
        generalize 6007 * (c + 1) * (c + 1) = y at b2 ⊢
        omega
      have b4 := log_lt (by decide) b3
      have b5 : Builtin.Int.intBits (b * (2 * (c + 1) + 1) + 6007 * (c + 1) * (c + 1) + 53) ≤ 111 := by
        unfold Builtin.Int.intBits
        split <;> omega
      omega
    · generalize (b * (2 * (c + 1) + 1) + 6007 * (c + 1) * (c + 1) + 53) ^ Int.toNat 3 = x
      have m1 := Int.emod_nonneg x (show p ≠ 0 by omega)
      have m2 := Int.emod_lt_of_pos x p2
      have e1 : (x % p).natAbs.log2 < 64 := log_lt (by decide) (by omega)
      have e2 : (x % p / 8191 + (c + 1)).natAbs.log2 < 64 := log_lt (by decide) (by omega)
      omega
    · refine k _ _ (Int.emod_nonneg _ (by omega)) (Int.emod_lt_of_pos _ (by omega)) ⟨⟨a, b, c + 1, g3, ha, hb, hb2, by omega, by omega⟩, hL2, nd⟩ ?_
      rw [← hs2]
      simp
theorem urnL {L : List (Nat × SObj)} {ns : List Int} {s : Nat} {st : Store} {P : D → Store → Prop} (hL : ∀ q ∈ L, st[q.1]? = some q.2) (nd : (L.map (·.1)).Nodup) (hs : s ≤ 1000)
    (k : ∀ st', UrnL L 0 st' st.length → st'.length = st.length + 1 → P (.ref st.length) st') : (F__law_urn [.scr ns, .int (s : Int)] st).holds E P := by
  have c1 : ((s : Int)).natAbs.log2 < 40 := log_lt (by decide) (by omega)
  have c2 : (97 * (s : Int)).natAbs.log2 < 40 := log_lt (by decide) (by omega)
  have sq : 0 ≤ 97 * (s : Int) * s ∧ 97 * (s : Int) * s ≤ 97000000 := by
    have : (s : Int) * s ≤ 1000 * 1000 := Int.mul_le_mul (by omega) (by omega) (by omega) (by omega)
    have h0 : 0 ≤ (s : Int) * s := Int.mul_nonneg (by omega) (by omega)
    rw [Int.mul_assoc]
    omega
  have fin : ∀ (g : Int) (x : Int), 0 ≤ g → P (D.ref (List.length st)) (st ++ [SObj.cell (Slot.ol [D.int g, D.int (x % 1000000000000000003 + 97 * (s : Int) * s + 31 * s + 1), D.int 0])]) := by
    intro g x hg
    have m1 := Int.emod_nonneg x (show (1000000000000000003 : Int) ≠ 0 by omega)
    have m2 := Int.emod_lt_of_pos x (show (0 : Int) < 1000000000000000003 by omega)
    have lt : ∀ q ∈ L, q.1 < st.length := fun q hq => (List.getElem?_eq_some_iff.mp (hL q hq)).1
    refine k _ ⟨⟨_, _, _, by rw [List.getElem?_append_right (Nat.le_refl _), Nat.sub_self]; rfl, hg, ?_, ?_, by omega, by omega⟩, fun q hq => by rw [List.getElem?_append_left (lt q hq)]; exact hL q hq, List.nodup_cons.mpr ⟨fun h => ?_, nd⟩⟩ (by simp)
    · omega
    · omega
    · obtain ⟨q, hq, e⟩ := List.mem_map.mp h
      have := lt q hq
      omega
  have lgs : ∀ x : Int, x.natAbs < 2 ^ 100 → x.natAbs.log2 < 100 := fun x h => log_lt (by decide) h
  have ab : ∀ x : Int, 0 ≤ (if x < 0 then -x else x) := by intro x; split <;> omega
  unfold F__law_urn
  refine go_fn rfl ?_
  unfold B__law_urn
  walk_at "ev"
  · rename_i hc
    have hl : (s : Int) < ns.length := hc
    have hx : atD st (.scr ns) s = some (.int (ns[s]'(by omega))) := by
      show (atI ns (s : Int)).map D.int = _
      unfold atI ixN
      rw [if_pos (by omega), if_pos hl]
      show (ns[s]?).map D.int = _
      rw [List.getElem?_eq_getElem (by omega)]
      rfl
    revert hx
    generalize ns[s]'(by omega) = x
    intro hx
    walk_at "ev"
    · exact fin 0 x (by omega)
    · exact fin _ x (ab x)
  · exact fin 0 0 (by omega)
theorem urn {ns : List Int} {s : Nat} {st : Store} {P : D → Store → Prop} (hs : s ≤ 1000) (k : ∀ st' n, UrnAt 0 st' n → P (.ref n) st') : (F__law_urn [.scr ns, .int (s : Int)] st).holds E P :=
  urnL (L := []) (fun _ h => nomatch h) List.nodup_nil hs fun st' h _ => k st' _ h
section
variable {L : List (Nat × SObj)} {B B' n : Nat} {st : Store} {o o' : SObj} {a : Nat}
theorem UrnL.le (h : UrnL L B st n) (hb : B ≤ B') : UrnL L B' st n := by
  obtain ⟨⟨a, b, c, h1, h2, h3, h4, h5, h6⟩, hL, nd⟩ := h
  exact ⟨⟨a, b, c, h1, h2, h3, h4, h5, by omega⟩, hL, nd⟩
theorem UrnAt.le (h : UrnAt B st n) (hb : B ≤ B') : UrnAt B' st n := UrnL.le h hb
theorem UrnL.get (h : UrnL L B st n) (hm : (a, o) ∈ L) : st[a]? = some o := h.2.1 _ hm
theorem UrnL.lt (h : UrnL L B st n) : n < st.length := by
  obtain ⟨⟨a, b, c, h1, _⟩, _⟩ := h
  exact (List.getElem?_eq_some_iff.mp h1).1
theorem UrnL.ltm (h : UrnL L B st n) (hm : (a, o) ∈ L) : a < st.length := (List.getElem?_eq_some_iff.mp (h.get hm)).1
/-- a new object -/
theorem UrnL.push (h : UrnL L B st n) : UrnL ((st.length, o) :: L) B (st ++ [o]) n := by
  have hn := h.lt
  have hlt : ∀ q ∈ L, q.1 < st.length := fun q hq => (List.getElem?_eq_some_iff.mp (h.2.1 q hq)).1
  obtain ⟨⟨a, b, c, h1, h2⟩, hL, nd⟩ := h
  refine ⟨⟨a, b, c, by rw [List.getElem?_append_left hn]; exact h1, h2⟩, fun q hq => ?_, ?_⟩
  · rcases List.mem_cons.mp hq with rfl | hq
    · show (st ++ [o])[st.length]? = some o
      rw [List.getElem?_append_right (Nat.le_refl _), Nat.sub_self]; rfl
    · rw [List.getElem?_append_left (hlt q hq)]; exact hL q hq
  · obtain ⟨n1, n2⟩ := List.nodup_cons.mp nd
    rw [List.map_cons]
    refine List.nodup_cons.mpr ⟨fun z => ?_, List.nodup_cons.mpr ⟨fun z => ?_, n2⟩⟩
    · rcases List.mem_cons.mp z with z | z
      · have z : n = st.length := z
        omega
      · exact n1 z
    · obtain ⟨q, hq, e⟩ := List.mem_map.mp z
      have := hlt q hq
      omega
/-- an object is changed -/
theorem UrnL.put {i : Nat} (h : UrnL L B st n) (hi : L[i]? = some (a, o)) : UrnL (L.set i (a, o')) B (st.set a o') n := by
  have hm : (a, o) ∈ L := List.mem_of_getElem? hi
  have ha := h.ltm hm
  obtain ⟨⟨x, y, z, h1, h2⟩, hL, nd⟩ := h
  obtain ⟨n1, n2⟩ := List.nodup_cons.mp nd
  have hne : a ≠ n := fun e => n1 (by rw [← e]; exact List.mem_map_of_mem (f := Prod.fst) hm)
  have keys : (L.set i (a, o')).map (·.1) = L.map (·.1) := by
    rw [List.map_set]
    obtain ⟨hl, e⟩ := List.getElem?_eq_some_iff.mp hi
    have : a = (L.map (·.1))[i]'(by rw [List.length_map]; exact hl) := by rw [List.getElem_map, e]
    show (L.map (·.1)).set i a = _
    conv => lhs; rw [this]
    exact List.set_getElem_self _
  refine ⟨⟨x, y, z, by rw [List.getElem?_set_ne hne]; exact h1, h2⟩, fun q hq => ?_, by rw [keys]; exact nd⟩
  obtain ⟨j, hj⟩ := List.getElem?_of_mem hq
  by_cases e : j = i
  · subst e
    rw [List.getElem?_set_self (List.getElem?_eq_some_iff.mp hi).1] at hj
    cases hj
    exact List.getElem?_set_self ha
  · rw [List.getElem?_set_ne (Ne.symm e)] at hj
    have hne2 : a ≠ q.1 := fun z => by
      have k1 : (L.map (·.1))[i]? = some a := by rw [List.getElem?_map, hi]; rfl
      have k2 : (L.map (·.1))[j]? = some a := by rw [List.getElem?_map, hj, z]; rfl
      obtain ⟨l1, e1⟩ := List.getElem?_eq_some_iff.mp k1
      obtain ⟨l2, e2⟩ := List.getElem?_eq_some_iff.mp k2
      exact e ((List.getElem_inj n2).mp (e2.trans e1.symm))
    rw [List.getElem?_set_ne hne2]
    exact hL q (List.mem_of_getElem? hj)
/-- some objects are forgotten -/
theorem UrnL.sub {M : List (Nat × SObj)} (h : UrnL L B st n) (hs : List.Sublist M L) : UrnL M B st n := ⟨h.1, fun q hq => h.2.1 q (hs.subset hq), nodup_sub h.2.2 hs⟩
theorem toRefU {P : D → Store → Prop} {ds : List D} (h : UrnL L B st n) (k : ∀ p st', UrnL ((p, .cell (.ol ds)) :: L) B st' n → P (.ref p) st') : (toRef (.ol ds) st).holds E P := go_toRef (k _ _ h.push)
theorem toRefDU {P : D → Store → Prop} {t : Bool} {kvs : List (DK × D)} (h : UrnL L B st n) (k : ∀ p st', UrnL ((p, .cell (.od t kvs)) :: L) B st' n → P (.ref p) st') : (toRef (.od t kvs) st).holds E P := go_toRefD (k _ _ h.push)
def okW : D → Bool
  | .str w => w.cps.all (· < 0x110000) && decide (w.cps.size ≤ 10)
  | _ => false
theorem okW_gd {d : D} (h : okW d = true) : ∃ w, d = .str w ∧ Gd 1000 1 10 (.str w) := by
  cases d with
  | str w =>
    have h : (w.cps.all (· < 0x110000) && decide (w.cps.size ≤ 10)) = true := h
    simp only [Bool.and_eq_true, decide_eq_true_eq] at h
    exact ⟨w, rfl, gd_str h.1 h.2⟩
  | _ => cases h
theorem go_pickW {ds : List D} {r : Int} {P : D → Store → Prop} (h0 : 0 ≤ r) (h1 : r < ds.length) (hs : ds.all okW = true) (q : ∀ w, Gd 1000 1 10 (.str w) → P (.str w) st) : (ixD (.lst ds) (.int r) st).holds E P := by
  obtain ⟨d, e, hm⟩ := at_mem h0 h1
  obtain ⟨w, rfl, g⟩ := okW_gd (List.all_eq_true.mp hs d hm)
  exact go_ix (x := .lst ds) e (q w g)
theorem UrnL.perm {M : List (Nat × SObj)} (h : UrnL L B st n) (hp : List.Perm M L) : UrnL M B st n := ⟨h.1, fun q hq => h.2.1 q (hp.subset hq), (List.Perm.nodup_iff ((hp.map _).cons n)).mpr h.2.2⟩
theorem UrnL.any {i : Nat} (h : UrnL L B st n) (hi : L[i]? = some (a, o)) : st[a]? = some o := h.get (List.mem_of_getElem? hi)
end
theorem go_pick {ds : List D} {r : Int} {st : Store} {P : D → Store → Prop} (h0 : 0 ≤ r) (h1 : r < ds.length) (q : ∀ d ∈ ds, P d st) : (ixD (.lst ds) (.int r) st).holds E P := by
  obtain ⟨d, e, hm⟩ := at_mem h0 h1
  exact go_ix (x := .lst ds) e (q d hm)
theorem go_pickT {ds : List D} {r : Int} {st : Store} {P : D → Store → Prop} (h0 : 0 ≤ r) (h1 : r < ds.length) (q : ∀ d ∈ ds, P d st) : (ixD (.tup ds) (.int r) st).holds E P := by
  obtain ⟨d, e, hm⟩ := at_mem h0 h1
  exact go_ix (x := .tup ds) e (q d hm)
theorem all_mem1 {P : D → Prop} {d : D} {ds : List D} (h : P d) (h' : ∀ x ∈ ds, P x) : ∀ x ∈ d :: ds, P x := by
  intro x hx
  rcases List.mem_cons.mp hx with rfl | hx
  · exact h
  · exact h' x hx
theorem all_mem0 {P : D → Prop} : ∀ x ∈ ([] : List D), P x := fun x hx => nomatch hx
end LAW
namespace LAW
open PySem EV L2 PyProof.Rows
local macro_rules | `(tactic| walk_at "gdl") => `(tactic| first
  | with_reducible exact Gd.fitw gd_non (by decide) | with_reducible exact Gd.fitw gd_bl (by decide)
  | ((with_reducible refine Gd.fitw (gd_int ?h) ?c); (case h => omega); (case c => decide))
  | ((with_reducible refine Gd.fit (N := ?N) (n := ?n) (w := ?w) ?h ?a ?b ?c); (case h => assumption); (case a => decide); (case b => decide); (case c => decide))
  | ((with_reducible refine Gd.fitw (gd_str (w := 50) ?h ?hw) ?c); (case h => decide +kernel); (case hw => decide +kernel); (case c => decide)))
local macro_rules | `(tactic| walk_at "gd") => `(tactic| first
  | walk_at "gdl"
  | ((with_reducible refine Gd.tupP ?h ?q); (case h => decide); (case q => walk_at "gds")) | ((with_reducible refine Gd.lstP ?h ?q); (case h => decide); (case q => walk_at "gds")))
local macro_rules | `(tactic| walk_at "gds") => `(tactic| first
  | with_reducible exact Gds.nil
  | ((with_reducible refine Gds.consL ?h1 ?h3 ?h2); (case h1 => walk_at "gdl"); (case h3 => decide); (case h2 => walk_at "gds"))
  | ((with_reducible refine Gds.consH ?h1 ?h3 ?h2); (case h1 => walk_at "gd"); (case h3 => decide); (case h2 => walk_at "gds")))
local macro_rules | `(tactic| walk_at "shw") => `(tactic| ((with_reducible refine go_shw (N := 10 ^ 12) (n := 64) (w := 1000000) ?h (Nat.le_refl _) (Nat.le_refl _) (Nat.le_refl _) ?hq); (case h => walk_at "gd")))
local macro_rules | `(tactic| walk_at "same") => `(tactic| first
  | ((with_reducible refine go_neG ?h ?hq); (case h => walk_at "gd")) | ((with_reducible refine go_eqG ?h ?hq); (case h => walk_at "gd")))
local macro_rules | `(tactic| walk_at "len") => `(tactic| first
  | (simp only [List.length_cons, List.length_nil, Nat.reduceAdd, Nat.reduceLeDiff]; done)
  | (simp only [List.length_cons, List.length_nil, List.length_append, List.length_map]; omega) | omega)
local macro_rules | `(tactic| walk_at "cell") => `(tactic| first
  | assumption
  | ((with_reducible refine get_set (o := ?oo) ?hh); (case hh => walk_at "cell"))
  | exact UrnL.get ‹_› (by repeat' (first | with_reducible exact List.mem_cons_self | with_reducible refine List.mem_cons_of_mem _ ?_)))
local macro_rules | `(tactic| walk_at "lkf") => `(tactic| repeat (first | with_reducible exact lkF_nil | with_reducible exact lkF_hd | with_reducible refine lkF_tl (by decide +kernel) ?_))
local macro_rules | `(tactic| walk_at "tab") => `(tactic| repeat (first | with_reducible exact tab_hd | with_reducible refine tab_tl (by decide +kernel) ?_))
local macro_rules | `(tactic| walk_at "lkd") => `(tactic| repeat (first | with_reducible exact lkd_hd | with_reducible refine lkd_tl (by decide +kernel) ?_))
local macro_rules | `(tactic| walk_at "ndp") => `(tactic| first | with_reducible exact nd_hd | ((with_reducible refine nd_tl (r' := ?r2) ?hd ?hq); (case hd => decide +kernel); (case hq => walk_at "ndp")))
local macro_rules | `(tactic| walk_at "mem") => `(tactic| repeat (first | with_reducible exact List.mem_cons_self | with_reducible refine List.mem_cons_of_mem _ ?_))
local macro_rules | `(tactic| walk_at "evo") => `(tactic| ((with_reducible refine go_setRL (ds := ?ds) (k := ?k) ?h ?hi ?hq); (case h => walk_at "cell"); (case hi => exact rfl)))
local macro_rules | `(tactic| walk_at "evo") => `(tactic| ((with_reducible refine go_ixR (ds := ?ds) (d := ?d) ?h ?hi ?hq); (case h => walk_at "cell"); (case hi => exact rfl)))
local macro_rules | `(tactic| walk_at "evo") => `(tactic| ((with_reducible refine go_ds (kvs := ?kvs) ?l ?e ?hq); (case l => exact rfl); (case e => (simp only [zipS_cons, zipS_nil]; exact rfl))))
local macro_rules | `(tactic| walk_at "evo") => `(tactic| ((with_reducible refine go_disp ?hq)))
local macro_rules | `(tactic| walk_at "evo") => `(tactic| ((with_reducible refine go_setRS (kvs := ?kvs) (kvs' := ?kv2) ?h ?hz ?he ?hq); (case h => walk_at "cell"); (case hz => walk_at "lt"); (case he => walk_at "ndp")))
local macro_rules | `(tactic| walk_at "evo") => `(tactic| ((with_reducible refine go_ixS (t := ?tt) (kvs := ?kvs) (d := ?d) ?h ?hl ?hq); (case h => walk_at "cell"); (case hl => walk_at "lkd")))
local macro_rules | `(tactic| walk_at "evo") => `(tactic| ((with_reducible refine go_listR (ds := ?ds) ?h ?hq); (case h => walk_at "cell")))
local macro_rules | `(tactic| walk_at "evo") => `(tactic| ((with_reducible refine go_tupR (ds := ?ds) ?h ?hq); (case h => walk_at "cell")))
local macro_rules | `(tactic| walk_at "evo") => `(tactic| ((with_reducible refine go_lenRD (kvs := ?kvs) ?h ?hq); (case h => walk_at "cell")))
local macro_rules | `(tactic| walk_at "evo") => `(tactic| ((with_reducible refine go_lenR (ds := ?ds) ?h ?hq); (case h => walk_at "cell")))
local macro_rules | `(tactic| walk_at "evo") => `(tactic| with_reducible refine go_isntN6 ?_)
local macro_rules | `(tactic| walk_at "evo") => `(tactic| with_reducible refine go_isntN5 ?_)
local macro_rules | `(tactic| walk_at "evo") => `(tactic| with_reducible refine go_isntN4 ?_)
local macro_rules | `(tactic| walk_at "evo") => `(tactic| with_reducible refine go_isntN3 ?_)
local macro_rules | `(tactic| walk_at "evo") => `(tactic| with_reducible refine go_isntN2 ?_)
local macro_rules | `(tactic| walk_at "evo") => `(tactic| with_reducible refine go_isntN1 ?_)
local macro_rules | `(tactic| walk_at "evo") => `(tactic| with_reducible refine go_isN6 ?_)
local macro_rules | `(tactic| walk_at "evo") => `(tactic| with_reducible refine go_isN5 ?_)
local macro_rules | `(tactic| walk_at "evo") => `(tactic| with_reducible refine go_isN4 ?_)
local macro_rules | `(tactic| walk_at "evo") => `(tactic| with_reducible refine go_isN3 ?_)
local macro_rules | `(tactic| walk_at "evo") => `(tactic| with_reducible refine go_isN2 ?_)
local macro_rules | `(tactic| walk_at "evo") => `(tactic| with_reducible refine go_isN1 ?_)
local macro_rules | `(tactic| walk_at "evo") => `(tactic| with_reducible refine go_toRefD ?_)
local macro_rules | `(tactic| walk_at "evo") => `(tactic| with_reducible refine go_dnew ?_)
local macro_rules | `(tactic| walk_at "evo") => `(tactic| ((with_reducible refine go_isDR (kvs := ?kvs) (k := ?k) ?h ?hq); (case h => walk_at "cell")))
local macro_rules | `(tactic| walk_at "evo") => `(tactic| with_reducible refine go_vBd ?_)
local macro_rules | `(tactic| walk_at "evo") => `(tactic| ((with_reducible refine go_appD (ds := ?ds) ?h ?hz ?hq); (case h => walk_at "cell"); try (case hz => walk_at "lt")))
local macro_rules | `(tactic| walk_at "evo") => `(tactic| ((with_reducible refine go_isLR (ds := ?ds) ?h ?hq); (case h => walk_at "cell")))
local macro_rules | `(tactic| walk_at "evo") => `(tactic| with_reducible refine go_vBm ?_)
local macro_rules | `(tactic| walk_at "evo") => `(tactic| ((with_reducible refine go_augF (C := ?C) (fs := ?fs) (i := ?i) ?h ?hm ?hl ?hz ?hq); (case h => walk_at "cell"); (case hm => walk_at "mem"); (case hl => walk_at "lkf"); (case hz => walk_at "lt")))
local macro_rules | `(tactic| walk_at "evo") => `(tactic| with_reducible refine go_fldA ?_)
local macro_rules | `(tactic| walk_at "evo") => `(tactic| with_reducible refine go_gN ?_)
local macro_rules | `(tactic| walk_at "evo") => `(tactic| with_reducible refine go_gsN ?_)
local macro_rules | `(tactic| walk_at "evo") => `(tactic| with_reducible refine go_gsC ?_)
local macro_rules | `(tactic| walk_at "evo") => `(tactic| ((with_reducible refine go_gTp ?hl ?hq); (case hl => exact rfl)))
local macro_rules | `(tactic| walk_at "evo") => `(tactic| ((with_reducible refine go_setF (C := ?C) (fs := ?fs) ?h ?hm ?hz ?hq); (case h => walk_at "cell"); (case hm => walk_at "mem"); (case hz => walk_at "lt")))
local macro_rules | `(tactic| walk_at "evo") => `(tactic| with_reducible refine ns_nil ?_)
local macro_rules | `(tactic| walk_at "evo") => `(tactic| with_reducible refine ns_tl (by decide +kernel) ?_)
local macro_rules | `(tactic| walk_at "evo") => `(tactic| with_reducible refine ns_hd ?_)
local macro_rules | `(tactic| walk_at "evo") => `(tactic| with_reducible refine go_gFld ?_)
local macro_rules | `(tactic| walk_at "evo") => `(tactic| ((with_reducible refine go_fld (C := ?C) (fs := ?fs) (d := ?d) ?h ?hm ?hl ?hq); (case h => walk_at "cell"); (case hm => walk_at "mem"); (case hl => walk_at "lkf")))
local macro_rules | `(tactic| walk_at "evo") => `(tactic| ((with_reducible refine go_methD (C := ?C) (fs := ?fs) (ps := ?ps) (F := ?F) ?h ?hl ?ht ?hq); (case h => walk_at "cell"); (case hl => walk_at "lkf"); (case ht => walk_at "tab")))
local macro_rules | `(tactic| walk_at "evo") => `(tactic| ((with_reducible refine lcp_cons (bs := ?bs) ?hb ?hq); (case hb => exact rfl)))
local macro_rules | `(tactic| walk_at "evo") => `(tactic| ((with_reducible refine lcp_consY (bs := ?bs) ?hb ?hq); (case hb => exact rfl)))
local macro_rules | `(tactic| walk_at "evo") => `(tactic| with_reducible refine lcp_nil ?_)
local macro_rules | `(tactic| walk_at "evo") => `(tactic| ((with_reducible refine go_mlen ?h ?hq); (case h => exact rfl)))
local macro_rules | `(tactic| walk_at "evo") => `(tactic| with_reducible refine go_vMeth ?_)
local macro_rules | `(tactic| walk_at "evo") => `(tactic| ((with_reducible refine go_ext1 ?h ?hq); (case h => walk_at "len")))
local macro_rules | `(tactic| walk_at "evo") => `(tactic| ((with_reducible refine go_ext (ds := ?ds) ?h ?hq); (case h => exact rfl)))
local macro_rules | `(tactic| walk_at "evo") => `(tactic| with_reducible refine go_par3e ?_)
local macro_rules | `(tactic| walk_at "evo") => `(tactic| with_reducible refine go_par3 ?_)
local macro_rules | `(tactic| walk_at "evo") => `(tactic| with_reducible refine go_inK ?_)
local macro_rules | `(tactic| walk_at "evo") => `(tactic| ((with_reducible refine go_gTpK ?hl ?hq); (case hl => exact rfl)))
local macro_rules | `(tactic| walk_at "evo") => `(tactic| with_reducible refine go_revdT ?_)
local macro_rules | `(tactic| walk_at "evo") => `(tactic| with_reducible refine go_revdL ?_)
local macro_rules | `(tactic| walk_at "evo") => `(tactic| with_reducible refine go_zipT ?_)
local macro_rules | `(tactic| walk_at "evo") => `(tactic| with_reducible refine go_zipL ?_)
local macro_rules | `(tactic| walk_at "evo") => `(tactic| with_reducible refine go_enumT ?_)
local macro_rules | `(tactic| walk_at "evo") => `(tactic| with_reducible refine go_enumL ?_)
local macro_rules | `(tactic| walk_at "evo") => `(tactic| ((with_reducible refine go_addT ?h ?hq); (case h => walk_at "len")))
local macro_rules | `(tactic| walk_at "evo") => `(tactic| ((with_reducible refine go_addL ?h ?hq); (case h => walk_at "len")))
local macro_rules | `(tactic| walk_at "evo") => `(tactic| ((with_reducible refine go_lockR (ds := ?ds) ?h ?hq); (case h => walk_at "cell")))
local macro_rules | `(tactic| walk_at "evo") => `(tactic| with_reducible refine go_vLock ?_)
local macro_rules | `(tactic| walk_at "evo") => `(tactic| with_reducible refine go_par2 ?_)
local macro_rules | `(tactic| walk_at "evo") => `(tactic| with_reducible refine go_par ?_)
local macro_rules | `(tactic| walk_at "evo") => `(tactic| ((with_reducible refine go_isiR (ds := ?ds) ?h ?hq); (case h => walk_at "cell")))
local macro_rules | `(tactic| walk_at "evo") => `(tactic| ((with_reducible refine go_le1000 ?h ?hq); (case h => walk_at "len")))
local macro_rules | `(tactic| walk_at "lt") => `(tactic| first
  | (simp only [List.length_cons, List.length_nil, Nat.reduceAdd, Nat.reduceLTLE, Nat.reduceLeDiff]; done) | walk_at "len")
local macro_rules | `(tactic| walk_at "ev1b") => `(tactic| walk_at "ev2")
local macro_rules | `(tactic| walk_at "ev1b") => `(tactic| (with_reducible refine And.intro (fun hc => ?_) (fun hc => ?_)))
local macro_rules | `(tactic| walk_at "ev1b") => `(tactic| with_reducible refine go_nd (fun hc => ?_) (fun hc => ?_))
local macro_rules | `(tactic| walk_at "ev1b") => `(tactic| ((with_reducible refine go_ndf ?hp ?hq); (case hp => first | (with_reducible rfl) | omega | decide | decide +kernel)))
local macro_rules | `(tactic| walk_at "ev1b") => `(tactic| ((with_reducible refine go_ndt ?hp ?hq); (case hp => first | (with_reducible rfl) | omega | decide | decide +kernel)))
local macro_rules | `(tactic| walk_at "ev1b") => `(tactic| with_reducible refine go_d (fun hc => ?_) (fun hc => ?_))
local macro_rules | `(tactic| walk_at "ev1b") => `(tactic| ((with_reducible refine go_df ?hp ?hq); (case hp => first | (with_reducible rfl) | omega | decide | decide +kernel)))
local macro_rules | `(tactic| walk_at "ev1b") => `(tactic| ((with_reducible refine go_dt ?hp ?hq); (case hp => first | (with_reducible rfl) | omega | decide | decide +kernel)))
local macro_rules | `(tactic| walk_at "ev1b") => `(tactic| with_reducible refine go_nff ?_)
local macro_rules | `(tactic| walk_at "ev1b") => `(tactic| with_reducible refine go_ntt ?_)
local macro_rules | `(tactic| walk_at "ev1b") => `(tactic| with_reducible refine go_ff ?_)
local macro_rules | `(tactic| walk_at "ev1b") => `(tactic| with_reducible refine go_tt ?_)
local macro_rules | `(tactic| walk_at "ev1b") => `(tactic| with_reducible refine go_addCL (by omega) ?_)
local macro_rules | `(tactic| walk_at "ev1b") => `(tactic| with_reducible refine go_addCT (by omega) ?_)
local macro_rules | `(tactic| walk_at "ev1b") => `(tactic| with_reducible refine go_slL ?_)
local macro_rules | `(tactic| walk_at "ev1b") => `(tactic| with_reducible refine go_slT ?_)
local macro_rules | `(tactic| walk_at "ev1b") => `(tactic| ((with_reducible refine go_rep ?h1 ?h2 ?h3 ?hq); (case h1 => simp); (case h2 => omega); (case h3 => (simp only [List.length_cons, List.length_nil]; omega))))
local macro_rules | `(tactic| walk_at "ev1b") => `(tactic| ((with_reducible refine go_lrng1 ?hn ?hq); (case hn => omega)))
local macro_rules | `(tactic| walk_at "ev1b") => `(tactic| ((with_reducible refine go_lrng2 ?hn ?hq); (case hn => omega)))
local macro_rules | `(tactic| walk_at "ev1b") => `(tactic| ((with_reducible refine go_star (ds := ?ds) (bs := ?bs) ?hd ?hb ?hh ?hq); (case hd => exact rfl); (case hb => (simp only [List.length_cons, List.length_nil]; omega)); (case hh => exact rfl)))
local macro_rules | `(tactic| walk_at "ev1b") => `(tactic| ((with_reducible refine go_lenEq ?hh ?hq); (case hh => exact rfl)))
local macro_rules | `(tactic| walk_at "ev1b") => `(tactic| ((with_reducible refine go_callL (y := ?y) (ps := ?ps) (F := ?F) ?hh ?ht ?hq); (case hh => exact rfl); (case ht => repeat (first | with_reducible exact tab_hd | with_reducible refine tab_tl (by decide +kernel) ?_))))
local macro_rules | `(tactic| walk_at "ev1b") => `(tactic| with_reducible refine go_kdIn ?_)
local macro_rules | `(tactic| walk_at "ev1b") => `(tactic| ((with_reducible refine go_kdIx (f := ?f) ?hh ?hq); (case hh => exact rfl)))
local macro_rules | `(tactic| walk_at "ev1b") => `(tactic| ((with_reducible refine go_addSL ?hn ?hq); (case hn => first | (simp only [List.length_cons, List.length_nil, List.length_append]; omega) | omega)))
local macro_rules | `(tactic| walk_at "ev1b") => `(tactic| with_reducible refine go_fn6 ?_)
local macro_rules | `(tactic| walk_at "ev1b") => `(tactic| with_reducible refine go_fn5 ?_)
local macro_rules | `(tactic| walk_at "ev1b") => `(tactic| with_reducible refine go_fn4 ?_)
local macro_rules | `(tactic| walk_at "ev1b") => `(tactic| with_reducible refine go_fn3 ?_)
local macro_rules | `(tactic| walk_at "ev1b") => `(tactic| with_reducible refine go_fn2 ?_)
local macro_rules | `(tactic| walk_at "ev1b") => `(tactic| with_reducible refine go_fn1 ?_)
local macro_rules | `(tactic| walk_at "ev1b") => `(tactic| ((with_reducible refine go_pow ?hn ?hm ?hq); try (case hn => decide); try (case hm => first | decide | assumption)))
local macro_rules | `(tactic| walk_at "ev1b") => `(tactic| with_reducible refine go_mul9 ?_)
local macro_rules | `(tactic| walk_at "ev1b") => `(tactic| with_reducible refine go_pow8 ?_)
local macro_rules | `(tactic| walk_at "ev1b") => `(tactic| ((with_reducible refine go_mul ?hn ?hq); try (case hn => first | decide | assumption | (exact lg2 (by omega) (by omega)))))
local macro_rules | `(tactic| walk_at "ev1b") => `(tactic| with_reducible refine go_mul9 ?_)
local macro_rules | `(tactic| walk_at "ev1b") => `(tactic| ((with_reducible refine go_fdiv ?hn ?hm ?hq); try (case hn => first | decide | omega); try (case hm => first | decide | assumption | exact lg1 (by omega))))
local macro_rules | `(tactic| walk_at "ev1b") => `(tactic| ((with_reducible refine go_mod ?hn ?hq); try (case hn => first | decide | omega)))
local macro_rules | `(tactic| walk_at "ev1b") => `(tactic| ((with_reducible refine go_ix (d := ?d) ?hh ?hq); (case hh => first | assumption | exact rfl)))
local macro_rules | `(tactic| walk_at "ev1b") => `(tactic| with_reducible refine go_slice ?_)
local macro_rules | `(tactic| walk_at "ev1b") => `(tactic| with_reducible refine go_soP ?_)
local macro_rules | `(tactic| walk_at "ev1b") => `(tactic| with_reducible refine go_noP ?_)
local macro_rules | `(tactic| walk_at "ev1b") => `(tactic| with_reducible refine go_revT ?_)
local macro_rules | `(tactic| walk_at "ev1b") => `(tactic| with_reducible refine go_revL ?_)
local macro_rules | `(tactic| walk_at "ev1b") => `(tactic| ((with_reducible refine go_isi2F (a := ?a) ?hh ?hT ?hb ?hq); (case hh => exact rfl); (case hT => decide); (case hb => decide +kernel)))
local macro_rules | `(tactic| walk_at "ev1b") => `(tactic| ((with_reducible refine go_isi2T (a := ?a) ?hh ?hT ?hb ?hq); (case hh => exact rfl); (case hT => decide); (case hb => decide +kernel)))
local macro_rules | `(tactic| walk_at "ev1b") => `(tactic| ((with_reducible refine go_isiF (a := ?a) ?hh ?hT ?hb ?hq); (case hh => exact rfl); (case hT => decide); (case hb => decide +kernel)))
local macro_rules | `(tactic| walk_at "ev1b") => `(tactic| ((with_reducible refine go_isiT (a := ?a) ?hh ?hT ?hb ?hq); (case hh => exact rfl); (case hT => decide); (case hb => decide +kernel)))
local macro_rules | `(tactic| walk_at "ev1b") => `(tactic| with_reducible refine go_tupT ?_)
local macro_rules | `(tactic| walk_at "ev1b") => `(tactic| with_reducible refine go_tupL ?_)
local macro_rules | `(tactic| walk_at "ev1b") => `(tactic| with_reducible refine go_listT ?_)
local macro_rules | `(tactic| walk_at "ev1b") => `(tactic| with_reducible refine go_listL ?_)
local macro_rules | `(tactic| walk_at "ev1b") => `(tactic| with_reducible refine go_lenC ?_)
local macro_rules | `(tactic| walk_at "ev1b") => `(tactic| with_reducible refine go_lenT ?_)
local macro_rules | `(tactic| walk_at "ev1b") => `(tactic| with_reducible refine go_lenL ?_)
local macro_rules | `(tactic| walk_at "ev1b") => `(tactic| with_reducible refine go_intB ?_)
local macro_rules | `(tactic| walk_at "ev1b") => `(tactic| with_reducible refine go_intI ?_)
local macro_rules | `(tactic| walk_at "ev1b") => `(tactic| with_reducible refine go_min2 ?_)
local macro_rules | `(tactic| walk_at "ev1b") => `(tactic| with_reducible refine go_max2 ?_)
local macro_rules | `(tactic| walk_at "ev1b") => `(tactic| with_reducible refine go_abs ?_)
local macro_rules | `(tactic| walk_at "ev1b") => `(tactic| with_reducible refine go_seqT ?_)
local macro_rules | `(tactic| walk_at "ev1b") => `(tactic| with_reducible refine go_seqL ?_)
local macro_rules | `(tactic| walk_at "ev1b") => `(tactic| ((with_reducible refine go_frzV (d := ?d) ?hh ?hq); (case hh => exact rfl)))
local macro_rules | `(tactic| walk_at "ev1b") => `(tactic| ((with_reducible refine go_frzO (ds := ?ds) ?hh ?hq); (case hh => exact rfl)))
local macro_rules | `(tactic| walk_at "ev1b") => `(tactic| ((with_reducible refine go_lenO (ds := ?ds) ?hh ?hq); (case hh => exact rfl)))
local macro_rules | `(tactic| walk_at "ev1b") => `(tactic| ((with_reducible refine go_ixO (ds := ?ds) ?hh ?hq); (case hh => exact rfl)))
local macro_rules | `(tactic| walk_at "ev1b") => `(tactic| ((with_reducible refine go_appN (ds := ?ds) ?hh ?hn ?hq); (case hh => exact rfl); try (case hn => (first | (simp only [List.length_cons, List.length_nil, Nat.reduceAdd, Nat.reduceLTLE, Nat.reduceLeDiff]; done) | walk_at "len"))))
local macro_rules | `(tactic| walk_at "ev1b") => `(tactic| with_reducible refine go_for ?_)
local macro_rules | `(tactic| walk_at "ev1b") => `(tactic| with_reducible refine go_v1 ?_)
local macro_rules | `(tactic| walk_at "ev1b") => `(tactic| with_reducible refine go_expr ?_)
local macro_rules | `(tactic| walk_at "ev1b") => `(tactic| with_reducible refine go_retN ?_)
local macro_rules | `(tactic| walk_at "ev1b") => `(tactic| with_reducible refine go_nil ?_)
local macro_rules | `(tactic| walk_at "ev1b") => `(tactic| with_reducible refine go_subR ?_)
local macro_rules | `(tactic| walk_at "ev1b") => `(tactic| ((with_reducible refine go_pat (bs := ?bs) ?hh ?hq); (case hh => exact rfl)))
local macro_rules | `(tactic| walk_at "ev1b") => `(tactic| with_reducible refine go_asg ?_)
local macro_rules | `(tactic| walk_at "ev1b") => `(tactic| with_reducible refine go_setS ?_)
local macro_rules | `(tactic| walk_at "ev1b") => `(tactic| ((with_reducible refine go_mkLst ?hn ?hq); (case hn => walk_at "len")))
local macro_rules | `(tactic| walk_at "ev1b") => `(tactic| ((with_reducible refine go_mkTup ?hn ?hq); (case hn => walk_at "len")))
local macro_rules | `(tactic| walk_at "ev1b") => `(tactic| with_reducible refine go_toRef ?_)
local macro_rules | `(tactic| walk_at "ev1b") => `(tactic| with_reducible refine go_frz2 ?_)
local macro_rules | `(tactic| walk_at "ev1b") => `(tactic| with_reducible refine go_frz ?_)
local macro_rules | `(tactic| walk_at "ev1b") => `(tactic| with_reducible refine go_vSl ?_)
local macro_rules | `(tactic| walk_at "ev1b") => `(tactic| with_reducible refine go_vRef ?_)
local macro_rules | `(tactic| walk_at "ev1b") => `(tactic| with_reducible refine go_vFrz ?_)
local macro_rules | `(tactic| walk_at "ev1b") => `(tactic| with_reducible refine go_chain ?_)
local macro_rules | `(tactic| walk_at "ev1b") => `(tactic| with_reducible refine go_vIf ?_)
local macro_rules | `(tactic| walk_at "ev1b") => `(tactic| with_reducible refine go_vNotV ?_)
local macro_rules | `(tactic| walk_at "ev1b") => `(tactic| with_reducible refine go_vOrV ?_)
local macro_rules | `(tactic| walk_at "ev1b") => `(tactic| with_reducible refine go_vAndV ?_)
local macro_rules | `(tactic| walk_at "ev1b") => `(tactic| with_reducible refine go_vOr ?_)
local macro_rules | `(tactic| walk_at "ev1b") => `(tactic| with_reducible refine go_vAnd ?_)
local macro_rules | `(tactic| walk_at "ev1b") => `(tactic| with_reducible refine go_vNot ?_)
local macro_rules | `(tactic| walk_at "ev1b") => `(tactic| with_reducible refine go_isntB ?_)
local macro_rules | `(tactic| walk_at "ev1b") => `(tactic| with_reducible refine go_isB ?_)
local macro_rules | `(tactic| walk_at "ev1b") => `(tactic| with_reducible refine go_neS ?_)
local macro_rules | `(tactic| walk_at "ev1b") => `(tactic| with_reducible refine go_eqS ?_)
local macro_rules | `(tactic| walk_at "ev1b") => `(tactic| with_reducible refine go_neI ?_)
local macro_rules | `(tactic| walk_at "ev1b") => `(tactic| with_reducible refine go_eqI ?_)
local macro_rules | `(tactic| walk_at "ev1b") => `(tactic| with_reducible refine go_ge ?_)
local macro_rules | `(tactic| walk_at "ev1b") => `(tactic| with_reducible refine go_gt ?_)
local macro_rules | `(tactic| walk_at "ev1b") => `(tactic| with_reducible refine go_le ?_)
local macro_rules | `(tactic| walk_at "ev1b") => `(tactic| with_reducible refine go_lt ?_)
local macro_rules | `(tactic| walk_at "ev1b") => `(tactic| with_reducible refine go_neg ?_)
local macro_rules | `(tactic| walk_at "ev1b") => `(tactic| with_reducible refine go_sub ?_)
local macro_rules | `(tactic| walk_at "ev1b") => `(tactic| with_reducible refine go_add ?_)
local macro_rules | `(tactic| walk_at "ev1b") => `(tactic| with_reducible refine go_in2 ?_)
local macro_rules | `(tactic| walk_at "ev1b") => `(tactic| with_reducible refine go_in ?_)
local macro_rules | `(tactic| walk_at "ev1b") => `(tactic| with_reducible refine go_bl ?_)
local macro_rules | `(tactic| walk_at "ev1b") => `(tactic| with_reducible refine go_ret ?_)
local macro_rules | `(tactic| walk_at "ev1b") => `(tactic| with_reducible refine go_vB ?_)
local macro_rules | `(tactic| walk_at "ev1b") => `(tactic| with_reducible refine go_if ?_)
local macro_rules | `(tactic| walk_at "ev1b") => `(tactic| with_reducible refine go_set ?_)
local macro_rules | `(tactic| walk_at "ev1b") => `(tactic| ((with_reducible refine go_name (d := ?d) ?hh ?hq); (case hh => exact rfl)))
local macro_rules | `(tactic| walk_at "ev1b") => `(tactic| with_reducible refine go_vA ?_)
local macro_rules | `(tactic| walk_at "ev1b") => `(tactic| with_reducible refine go_vNil ?_)
local macro_rules | `(tactic| walk_at "ev1b") => `(tactic| with_reducible refine go_vCons ?_)
local macro_rules | `(tactic| walk_at "ev1b") => `(tactic| with_reducible refine go_v2 ?_)
local macro_rules | `(tactic| walk_at "ev1b") => `(tactic| with_reducible refine go_c ?_)
local macro_rules | `(tactic| walk_at "ev1b") => `(tactic| with_reducible refine go_seq ?_)
local macro_rules | `(tactic| walk_at "ev1b") => `(tactic| walk_at "ev0")
local macro_rules | `(tactic| walk_at "nm") => `(tactic| ((with_reducible refine go_nm (env' := ?en) ?hh ?hq); (case hh => first | (dsimp only [List.set, bindE, setAll, List.foldl, List.map, List.cons_append, List.nil_append, List.replicate, wipeE]; exact rfl) | exact rfl)))
local macro_rules | `(tactic| walk_at "ev1") => `(tactic| walk_at "ev1b")
local macro_rules | `(tactic| walk_at "ev1") => `(tactic| walk_at "nm")
local macro_rules | `(tactic| walk_at "ev") => `(tactic| repeat' (first | walk_at "ev1" | fail))
local macro_rules | `(tactic| walk_at "evs") => `(tactic| ((try walk_at "nm"); repeat' (first | walk_at "ev1b" | fail)))
set_option maxRecDepth 100000
set_option autoImplicit false
set_option maxHeartbeats 4000000
set_option linter.all false
section
open PySem EV L2 PyProof.Rows
variable {E : ErP} {Ee : ErS}
local macro_rules | `(tactic| walk_at "ev2") => `(tactic| walk_at "evo")
local macro_rules | `(tactic| walk_at "ev2") => `(tactic| with_reducible exact all_mem0)
local macro_rules | `(tactic| walk_at "ev2") => `(tactic| with_reducible refine all_mem1 ?_ ?_)
local macro_rules | `(tactic| walk_at "ev2") => `(tactic| with_reducible refine go_pickT (by omega) (by first | omega | (simp only [List.length_cons, List.length_nil]; omega)) ?_)
local macro_rules | `(tactic| walk_at "ev2") => `(tactic| with_reducible refine go_pick (by omega) (by first | omega | (simp only [List.length_cons, List.length_nil]; omega)) ?_)
local macro_rules | `(tactic| walk_at "ev2") => `(tactic| (with_reducible refine draw ‹_› (by omega) (by omega) (by omega) fun r st1 r0 r1 h1 hl => ?_))
def isI : D → Bool
  | .int _ => true
  | _ => false
def isT (lo hi : Int) : D → Bool
  | .tup xs => decide (lo ≤ (xs.length : Int)) && decide ((xs.length : Int) ≤ hi)
  | _ => false
section
variable {N n : Nat} {d : D} {st : Store} {P : D → Store → Prop} {lo hi : Int}
theorem go_W_whole (h : pl N d = true) (q : P (.bl (isI d)) st) : (fnF 1 0 (sRet (vAndV (vA isiD (vCons (vName 0) (vCons (vC (.ty "int")) (vNil)))) (vNotV (vA isiD (vCons (vName 0) (vCons (vC (.ty "bool")) (vNil))))))) [d] st).holds E P := by
  refine go_fn rfl ?_
  cases d <;> first | (exfalso; unfold pl at h; exact Bool.noConfusion h) | (walk_at "ev"; exact q)
theorem go_is_whole (h : pl N d = true) (q : P (.bl (isI d)) st) : (F_is_whole [d] st).holds E P := go_W_whole h q
theorem go__law_whole (h : pl N d = true) (q : P (.bl (isI d)) st) : (F__law_whole [d] st).holds E P := go_W_whole h q
end
end
set_option maxRecDepth 100000
set_option autoImplicit false
set_option maxHeartbeats 1000000
set_option linter.all false
set_option pp.maxSteps 3000
set_option pp.deepTerms false
section
open PySem EV L2 PyProof.Rows
variable {E : ErP} {Ee : ErS}
local macro_rules | `(tactic| walk_at "ev2") => `(tactic| walk_at "evo")
local macro_rules | `(tactic| walk_at "ev2") => `(tactic| with_reducible exact all_mem0)
local macro_rules | `(tactic| walk_at "ev2") => `(tactic| with_reducible refine all_mem1 ?_ ?_)
local macro_rules | `(tactic| walk_at "ev2") => `(tactic| with_reducible refine go_pickT (by omega) (by first | omega | (simp only [List.length_cons, List.length_nil]; omega)) ?_)
local macro_rules | `(tactic| walk_at "ev2") => `(tactic| with_reducible refine go_pick (by omega) (by first | omega | (simp only [List.length_cons, List.length_nil]; omega)) ?_)
local macro_rules | `(tactic| walk_at "ev2") => `(tactic| (with_reducible refine draw ‹_› (by omega) (by omega) (by omega) fun r st1 r0 r1 h1 hl => ?_))
local macro_rules | `(tactic| walk_at "ev0") => `(tactic| with_reducible refine go_pickW (by omega) (by walk_at "lt") (by decide +kernel) fun w gw => ?_)
local macro_rules | `(tactic| walk_at "ev0") => `(tactic| with_reducible refine toRefDU ‹_› fun p st1 hu => ?_)
local macro_rules | `(tactic| walk_at "ev0") => `(tactic| with_reducible refine toRefU ‹_› fun p st1 hu => ?_)
local macro_rules | `(tactic| walk_at "ev0") => `(tactic| ((with_reducible refine go_litems (kvs := ?kvs) ?h ?hq); (case h => walk_at "cell")))
local macro_rules | `(tactic| walk_at "ev0") => `(tactic| ((with_reducible refine go_lenMD (kvs := ?kvs) ?h ?hq); (case h => walk_at "cell")))
local macro_rules | `(tactic| walk_at "ev0") => `(tactic| with_reducible refine go_lenMC ?_)
local macro_rules | `(tactic| walk_at "ev0") => `(tactic| with_reducible refine go_lenMT ?_)
local macro_rules | `(tactic| walk_at "ev0") => `(tactic| with_reducible refine go_lenML ?_)
local macro_rules | `(tactic| walk_at "ev0") => `(tactic| ((with_reducible refine go_isxB (b := ?b) ?h ?hq); (case h => exact if_pos rfl)))
local macro_rules | `(tactic| walk_at "ev0") => `(tactic| ((with_reducible refine go_isxO (b := ?b) ?h ?hq); (case h => exact if_pos rfl)))
/-- a post: where its dict is, the next number -/
abbrev PST (d : Nat) (n : Int) : SObj := .ins "Post" [("by_number", .ref d), ("coming", .int n)]
def LT (ls : List (Int × D)) : List (DK × D) := ls.map fun p => (DK.k (.inl p.1), p.2)
abbrev LTC (ls : List (Int × D)) : SObj := .cell (.od false (LT ls))
def keysL (ls : List (Int × D)) : List Int := ls.map (·.1)
def lkL : List (Int × D) → Int → Option D
  | [], _ => none
  | p :: r, i => if p.1 = i then some p.2 else lkL r i
def drpL (ls : List (Int × D)) (i : Int) : List (Int × D) := ls.filter fun p => !decide (p.1 = i)
def getL (ls : List (Int × D)) : D → Option D
  | .int i => lkL ls i
  | _ => none
theorem lk_LT {x : Int} : ∀ {ls : List (Int × D)}, lkD (LT ls) (.k (.inl x)) = lkL ls x
  | [] => rfl
  | p :: ls => by
    show (if (DK.k (.inl p.1)) = (DK.k (.inl x)) then some p.2 else lkD (LT ls) (.k (.inl x))) = (if p.1 = x then some p.2 else lkL ls x)
    by_cases e : p.1 = x
    · rw [if_pos e, if_pos (by rw [e])]
    · rw [if_neg e, if_neg (by simpa using e), lk_LT]
theorem lkL_none {x : Int} : ∀ {ls : List (Int × D)}, lkL ls x = none ↔ x ∉ keysL ls
  | [] => by simp [lkL, keysL]
  | p :: ls => by
    show (if p.1 = x then some p.2 else lkL ls x) = none ↔ x ∉ p.1 :: keysL ls
    by_cases e : p.1 = x
    · rw [if_pos e]; simp [e]
    · rw [if_neg e, lkL_none]; simp [Ne.symm e]
theorem lkL_mem {x : Int} {d : D} : ∀ {ls : List (Int × D)}, lkL ls x = some d → (x, d) ∈ ls
  | [], h => nomatch h
  | p :: ls, h => by
    have h : (if p.1 = x then some p.2 else lkL ls x) = some d := h
    split at h
    · next e => cases h; rw [← e]; exact List.mem_cons_self
    · exact List.mem_cons_of_mem _ (lkL_mem h)
theorem lkL_of {x : Int} {d : D} : ∀ {ls : List (Int × D)}, (keysL ls).Nodup → (x, d) ∈ ls → lkL ls x = some d
  | p :: ls, nd, h => by
    obtain ⟨n1, n2⟩ := List.nodup_cons.mp nd
    show (if p.1 = x then some p.2 else lkL ls x) = some d
    rcases List.mem_cons.mp h with e | h
    · rw [← e, if_pos rfl]
    · rw [if_neg fun e => n1 (by show p.1 ∈ ls.map (·.1); rw [e]; exact List.mem_map_of_mem (f := Prod.fst) h), lkL_of n2 h]
theorem put_LT {x : Int} {d : D} : ∀ {ls : List (Int × D)}, x ∉ keysL ls → putD (LT ls) (.k (.inl x)) d = LT (ls ++ [(x, d)])
  | [], _ => rfl
  | p :: ls, h => by
    have h' : p.1 ≠ x ∧ x ∉ keysL ls := by
      have h : x ∉ p.1 :: keysL ls := h
      rw [List.mem_cons, not_or] at h
      exact ⟨Ne.symm h.1, h.2⟩
    show (if (DK.k (.inl p.1)) = (DK.k (.inl x)) then _ else _) = _
    rw [if_neg (by simpa using h'.1)]
    show (DK.k (.inl p.1), p.2) :: putD (LT ls) (.k (.inl x)) d = _
    rw [put_LT h'.2]
    rfl
theorem drp_LT {x : Int} : ∀ {ls : List (Int × D)}, dropD (LT ls) (.k (.inl x)) = LT (drpL ls x)
  | [] => rfl
  | p :: ls => by
    show (if (DK.k (.inl p.1)) = (DK.k (.inl x)) then dropD (LT ls) (.k (.inl x)) else (DK.k (.inl p.1), p.2) :: dropD (LT ls) (.k (.inl x))) = LT ((p :: ls).filter fun p => !decide (p.1 = x))
    rw [drp_LT (ls := ls)]
    by_cases e : p.1 = x
    · rw [if_pos (by rw [e]), List.filter_cons_of_neg (by simp [e])]
      rfl
    · rw [if_neg (by simpa using e), List.filter_cons_of_pos (by simp [e])]
      rfl
theorem len_LT {ls : List (Int × D)} : (LT ls).length = ls.length := List.length_map _
theorem intK_LT : ∀ {ls : List (Int × D)}, intK (LT ls) = some (keysL ls)
  | [] => rfl
  | p :: ls => by
    show (match intK (LT ls) with | some ks => some (p.1 :: ks) | none => none) = _
    rw [intK_LT]
    rfl
section
variable {st : Store} {P : D → Store → Prop} {d : Nat} {ls : List (Int × D)} {x : Int}
theorem inX_LT (h : st[d]? = some (LTC ls)) : inX st (.int x) (.ref d) = some (lkL ls x).isSome := by
  have e1 : dictOf st (.ref d) = some (LT ls) := by
    unfold dictOf
    simp only [h]
  have e2 : EV.kindOf st (.ref d) (LT ls) = some false := by
    unfold EV.kindOf
    simp only [h]
  unfold inX
  rw [e1]
  show inKv st (.int x) (.ref d) (LT ls) = _
  unfold inKv
  rw [e2]
  show (if DK.isT (.k (.inl x)) = false then some (lkD (LT ls) (.k (.inl x))).isSome else none) = _
  rw [if_pos (show DK.isT (.k (.inl x)) = false from rfl), lk_LT]
theorem go_notinLT (h : st[d]? = some (LTC ls)) (q : P (.bl (!(lkL ls x).isSome)) st) : (notinD (.int x) (.ref d) st).holds E P := go_notinX (inX_LT h) q
theorem go_ixLT {y : D} (h : st[d]? = some (LTC ls)) (e : lkL ls x = some y) (q : P y st) : (ixD (.ref d) (.int x) st).holds E P :=
  go_ixD (kvs := LT ls) (k := .k (.inl x)) (by unfold dictOf; simp only [h]) rfl (lk_LT.trans e) q
end
/-- the letters' numbers rise, each below the next one; the letters are plain -/
structure PInv (ls : List (Int × D)) (n : Int) : Prop where
  up : (keysL ls).Pairwise (· < ·)
  lo : ∀ k ∈ keysL ls, 0 ≤ k ∧ k < n
  gd : ∀ p ∈ ls, Gd (10 ^ 12) 1 300 p.2
  len : (ls.length : Int) ≤ n
theorem PInv.nd {ls : List (Int × D)} {n : Int} (h : PInv ls n) : (keysL ls).Nodup := h.up.imp fun h => Int.ne_of_lt h
theorem PInv.nil : PInv [] 0 := ⟨List.Pairwise.nil, (fun _ h => nomatch h), (fun _ h => nomatch h), by simp⟩
theorem PInv.new {ls : List (Int × D)} {n : Int} (h : PInv ls n) : n ∉ keysL ls := fun z => by have := h.lo n z; omega
theorem PInv.app {ls : List (Int × D)} {n : Int} {x : D} (h : PInv ls n) (g : Gd (10 ^ 12) 1 300 x) : PInv (ls ++ [(n, x)]) (n + 1) := by
  have hn : 0 ≤ n := Int.le_trans (Int.natCast_nonneg _) h.len
  refine ⟨?_, fun k hk => ?_, fun p hp => ?_, ?_⟩
  · unfold keysL
    rw [List.map_append]
    exact List.pairwise_append.mpr ⟨h.up, List.pairwise_singleton _ _, fun a ha b hb => by rw [List.mem_singleton.mp hb]; exact (h.lo a ha).2⟩
  · unfold keysL at hk
    rw [List.map_append] at hk
    rcases List.mem_append.mp hk with hk | hk
    · have := h.lo k hk
      omega
    · rw [List.mem_singleton.mp hk]
      show 0 ≤ n ∧ n < n + 1
      omega
  · rcases List.mem_append.mp hp with hp | hp
    · exact h.gd p hp
    · rw [List.mem_singleton.mp hp]
      exact g
  · rw [List.length_append]
    have := h.len
    show ((ls.length + 1 : Nat) : Int) ≤ n + 1
    omega
theorem PInv.drp {ls : List (Int × D)} {n i : Int} (h : PInv ls n) : PInv (drpL ls i) n := by
  have hs : List.Sublist (drpL ls i) ls := List.filter_sublist
  refine ⟨h.up.sublist (hs.map _), fun k hk => h.lo k ((hs.map _).subset hk), fun p hp => h.gd p (hs.subset hp), ?_⟩
  have := hs.length_le
  have := h.len
  omega
def LI (ls : List (Int × D)) : List D := ls.map fun p => .tup [.int p.1, p.2]
theorem itD_LT {ls : List (Int × D)} : (LT ls).map itD = LI ls := by
  unfold LT LI
  rw [List.map_map]
  rfl
theorem gds_LI {ls : List (Int × D)} {n : Int} (hn : n ≤ 100000) : ∀ {rs : List (Int × D)}, PInv ls n → (∀ p ∈ rs, p ∈ ls) → Gds (10 ^ 12) 2 (345 * rs.length) (LI rs)
  | [], _, _ => Gds.nil
  | p :: rs, h, hs => by
    have hp := hs p List.mem_cons_self
    have h1 := h.lo p.1 (List.mem_map_of_mem (f := Prod.fst) hp)
    have h12 : (10 : Nat) ^ 12 = 1000000000000 := by decide
    have g1 : Gd (10 ^ 12) 2 342 (.tup [.int p.1, p.2]) := (Gd.tup (n := 1) (Gds.cons (gd_int (by omega)) (Gds.cons (h.gd p hp) (Gds.nil (w := 0))))).le (Nat.le_refl _) (by decide)
    exact (Gds.cons g1 (gds_LI hn h fun q hq => hs q (List.mem_cons_of_mem _ hq))).le (Nat.le_refl _) (by rw [List.length_cons]; omega)
theorem gd_LI {ls : List (Int × D)} {n : Int} (h : PInv ls n) (hn : n ≤ 2000) : Gd (10 ^ 12) 3 700000 (.tup (LI ls)) :=
  (Gd.tup (gds_LI (by omega) h fun _ z => z)).le (Nat.le_refl _) (by have := h.len; omega)
section
variable {L : List (Nat × SObj)} {B u : Nat} {st : Store} {P : D → Store → Prop} {c d : Nat} {n : Int} {ls : List (Int × D)} {x : D} {N : Nat}
theorem go_post_init (hu : UrnL ((c, .ins "Post" []) :: L) B st u) (q : ∀ d st', UrnL ((c, PST d 0) :: (d, LTC []) :: L) B st' u → P .non st') : (F_Post___init__ [.ref c] st).holds E P := by
  unfold F_Post___init__
  with_reducible refine go_fn (n := 1) (by simp only [List.length_cons, List.length_nil]) ?_
  unfold B_Post___init__
  walk_at "ev"
  rename_i p1 s1 hx
  simp only [List.set_set]
  have hy := hx.put (i := 1) (o' := PST p1 0) rfl
  exact q p1 _ (hy.perm (List.Perm.swap _ _ _))
theorem go_post_make (hu : UrnL L B st u) (q : ∀ c d st', UrnL ((c, PST d 0) :: (d, LTC []) :: L) B st' u → P (.ref c) st') : (makeD "Post" 1 F_Post___init__ [] st).holds E P := by
  with_reducible refine go_makeD ?_ (go_post_init hu.push fun d st' h => ?_)
  · simp only [List.length_cons, List.length_nil]
  · exact ⟨rfl, q _ _ _ h⟩
theorem go_post_send (hu : UrnL ((c, PST d n) :: (d, LTC ls) :: L) B st u) (hn : n ∉ keysL ls) (hl : ls.length < 100000) (q : ∀ st', UrnL ((c, PST d (n + 1)) :: (d, LTC (ls ++ [(n, x)])) :: L) B st' u → P (.int n) st') : (F_Post_send [.ref c, x] st).holds E P := by
  unfold F_Post_send
  with_reducible refine go_fn (n := 2) (by simp only [List.length_cons, List.length_nil]) ?_
  unfold B_Post_send
  have hc := hu.any (i := 0) rfl
  walk_at "ev"
  have hu2 := hu.put (i := 0) (o' := PST d (n + 1)) rfl
  dsimp only [List.set] at hu2
  clear hc
  revert hu2
  generalize st.set c (PST d (n + 1)) = s2
  intro hu2
  have hc := hu2.any (i := 0) rfl
  have hd := hu2.any (i := 1) rfl
  walk_at "ev"
  with_reducible refine go_setRD (k := .k (.inl n)) hd rfl rfl (by rw [len_LT]; omega) ?_
  rw [put_LT hn]
  have hu3 := hu2.put (i := 1) (o' := LTC (ls ++ [(n, x)])) rfl
  walk_at "ev"
  exact q _ hu3
theorem go_post_look (h : st[c]? = some (PST d n)) (hd : st[d]? = some (LTC ls)) (hp : pl N x = true) (q1 : ∀ i y, x = .int i → lkL ls i = some y → P .non st) (q2 : getL ls x = none → E ⟨"NoLetter", [("number", x)]⟩ st) : (F_Post_look_number [.ref c, x] st).holds E P := by
  unfold F_Post_look_number
  with_reducible refine go_fn (n := 2) (by simp only [List.length_cons, List.length_nil]) ?_
  unfold B_Post_look_number
  walk_at "ev"
  refine go_is_whole hp ?_
  cases x with
  | int i =>
    show (∃ c, D.bl true = .bl c ∧ _)
    walk_at "ev"
    with_reducible refine go_notinLT hd ?_
    cases e : lkL ls i with
    | none =>
      show (∃ c, D.bl true = .bl c ∧ _)
      walk_at "ev"
      with_reducible refine go_raise ?_
      walk_at "ev"
      exact q2 e
    | some y =>
      show (∃ c, D.bl false = .bl c ∧ _)
      walk_at "ev"
      exact q1 i y rfl e
  | _ =>
    show (∃ c, D.bl false = .bl c ∧ _)
    walk_at "ev"
    with_reducible refine go_raise ?_
    walk_at "ev"
    exact q2 rfl
theorem go_post_carry (hu : UrnL ((c, PST d n) :: (d, LTC ls) :: L) B st u) (hp : pl N x = true) (q1 : ∀ i y st', x = .int i → lkL ls i = some y → UrnL ((c, PST d n) :: (d, LTC (drpL ls i)) :: L) B st' u → P y st') (q2 : getL ls x = none → E ⟨"NoLetter", [("number", x)]⟩ st) : (F_Post_carry [.ref c, x] st).holds E P := by
  unfold F_Post_carry
  with_reducible refine go_fn (n := 2) (by simp only [List.length_cons, List.length_nil]) ?_
  unfold B_Post_carry
  have hc := hu.any (i := 0) rfl
  have hd := hu.any (i := 1) rfl
  walk_at "ev"
  refine go_post_look hc hd hp (fun i y e1 e2 => ?_) q2
  subst e1
  walk_at "ev"
  with_reducible refine go_dpopD hd rfl (lk_LT.trans e2) ?_
  rw [drp_LT]
  walk_at "ev"
  exact q1 i y _ rfl e2 (hu.put (i := 1) (o' := LTC (drpL ls i)) rfl)
theorem go_post_lose (hu : UrnL ((c, PST d n) :: (d, LTC ls) :: L) B st u) (hp : pl N x = true) (q1 : ∀ i y st', x = .int i → lkL ls i = some y → UrnL ((c, PST d n) :: (d, LTC (drpL ls i)) :: L) B st' u → P .non st') (q2 : getL ls x = none → E ⟨"NoLetter", [("number", x)]⟩ st) : (F_Post_lose [.ref c, x] st).holds E P := by
  unfold F_Post_lose
  with_reducible refine go_fn (n := 2) (by simp only [List.length_cons, List.length_nil]) ?_
  unfold B_Post_lose
  have hc := hu.any (i := 0) rfl
  have hd := hu.any (i := 1) rfl
  walk_at "ev"
  refine go_post_look hc hd hp (fun i y e1 e2 => ?_) q2
  subst e1
  walk_at "ev"
  with_reducible refine go_dpopD hd rfl (lk_LT.trans e2) ?_
  rw [drp_LT]
  walk_at "ev"
  exact q1 i y _ rfl e2 (hu.put (i := 1) (o' := LTC (drpL ls i)) rfl)
theorem go_post_double (hu : UrnL ((c, PST d n) :: (d, LTC ls) :: L) B st u) (hn : n ∉ keysL ls) (hl : ls.length < 100000) (hp : pl N x = true) (q1 : ∀ i y st', x = .int i → lkL ls i = some y → UrnL ((c, PST d (n + 1)) :: (d, LTC (ls ++ [(n, y)])) :: L) B st' u → P (.int n) st') (q2 : getL ls x = none → E ⟨"NoLetter", [("number", x)]⟩ st) : (F_Post_double [.ref c, x] st).holds E P := by
  unfold F_Post_double
  with_reducible refine go_fn (n := 2) (by simp only [List.length_cons, List.length_nil]) ?_
  unfold B_Post_double
  have hc := hu.any (i := 0) rfl
  have hd := hu.any (i := 1) rfl
  walk_at "ev"
  refine go_post_look hc hd hp (fun i y e1 e2 => ?_) q2
  subst e1
  walk_at "ev"
  with_reducible refine go_ixLT hd e2 ?_
  walk_at "ev"
  with_reducible refine go_post_send hu hn hl fun st' hu2 => ?_
  walk_at "ev"
  exact q1 i y _ rfl e2 hu2
theorem go_post_under (h : st[c]? = some (PST d n)) (hd : st[d]? = some (LTC ls)) (q : P (.tup (LI ls)) st) : (F_Post_under_way [.ref c] st).holds E P := by
  unfold F_Post_under_way
  with_reducible refine go_fn (n := 1) (by simp only [List.length_cons, List.length_nil]) ?_
  unfold B_Post_under_way
  walk_at "ev"
  rw [itD_LT]
  walk_at "ev"
  exact q
theorem go_post_len (h : st[c]? = some (PST d n)) (hd : st[d]? = some (LTC ls)) (q : P (.int ls.length) st) : (F_Post___len__ [.ref c] st).holds E P := by
  unfold F_Post___len__
  with_reducible refine go_fn (n := 1) (by simp only [List.length_cons, List.length_nil]) ?_
  unfold B_Post___len__
  walk_at "ev"
  rw [len_LT]
  exact q
theorem go_lenP (h : st[c]? = some (PST d n)) (hd : st[d]? = some (LTC ls)) (hl : ls.length < 100000) (q : P (.int ls.length) st) : (lenMD [("Post", ["self"], F_Post___len__)] [.ref c] st).holds E P :=
  go_lenM (F := F_Post___len__) (ps := ["self"]) h tab_hd rfl (go_post_len h hd ⟨_, rfl, by omega, q⟩)
theorem go_boolP (h : st[c]? = some (PST d n)) (hd : st[d]? = some (LTC ls)) (hl : ls.length < 100000) (q : P (.bl (!ls.isEmpty)) st) : (boolMD [("Post", ["self"], F_Post___len__)] [.ref c] st).holds E P := by
  refine go_boolM (F := F_Post___len__) (ps := ["self"]) h tab_hd rfl (go_post_len h hd ⟨_, rfl, by omega, ?_⟩)
  cases ls with
  | nil => exact q
  | cons p r =>
    have e : (((p :: r).length : Int) != 0) = true := by
      rw [bne_iff_ne, List.length_cons]
      omega
    rw [e]
    exact q
end
end
set_option maxRecDepth 100000
set_option autoImplicit false
set_option maxHeartbeats 4000000
set_option linter.all false
section
open PySem EV L2 PyProof.Rows
variable {E : ErP} {Ee : ErS}
local macro_rules | `(tactic| walk_at "ev2") => `(tactic| walk_at "evo")
local macro_rules | `(tactic| walk_at "ev2") => `(tactic| with_reducible exact all_mem0)
local macro_rules | `(tactic| walk_at "ev2") => `(tactic| with_reducible refine all_mem1 ?_ ?_)
local macro_rules | `(tactic| walk_at "ev2") => `(tactic| with_reducible refine go_pickT (by omega) (by first | omega | (simp only [List.length_cons, List.length_nil]; omega)) ?_)
local macro_rules | `(tactic| walk_at "ev2") => `(tactic| with_reducible refine go_pick (by omega) (by first | omega | (simp only [List.length_cons, List.length_nil]; omega)) ?_)
local macro_rules | `(tactic| walk_at "ev2") => `(tactic| (with_reducible refine draw ‹_› (by omega) (by omega) (by omega) fun r st1 r0 r1 h1 hl => ?_))
variable {L : List (Nat × SObj)}
end
set_option maxRecDepth 100000
set_option autoImplicit false
set_option maxHeartbeats 1000000
set_option linter.all false
set_option pp.maxSteps 3000
set_option pp.deepTerms false
section
open PySem EV L2 PyProof.Rows
variable {E : ErP} {Ee : ErS}
local macro_rules | `(tactic| walk_at "ev2") => `(tactic| walk_at "evo")
local macro_rules | `(tactic| walk_at "ev2") => `(tactic| with_reducible exact all_mem0)
local macro_rules | `(tactic| walk_at "ev2") => `(tactic| with_reducible refine all_mem1 ?_ ?_)
local macro_rules | `(tactic| walk_at "ev2") => `(tactic| with_reducible refine go_pickT (by omega) (by first | omega | (simp only [List.length_cons, List.length_nil]; omega)) ?_)
local macro_rules | `(tactic| walk_at "ev2") => `(tactic| with_reducible refine go_pick (by omega) (by first | omega | (simp only [List.length_cons, List.length_nil]; omega)) ?_)
local macro_rules | `(tactic| walk_at "ev2") => `(tactic| (with_reducible refine draw ‹_› (by omega) (by omega) (by omega) fun r st1 r0 r1 h1 hl => ?_))
local macro_rules | `(tactic| walk_at "ev0") => `(tactic| with_reducible refine go_pickW (by omega) (by walk_at "lt") (by decide +kernel) fun w gw => ?_)
local macro_rules | `(tactic| walk_at "ev0") => `(tactic| with_reducible refine toRefDU ‹_› fun p st1 hu => ?_)
local macro_rules | `(tactic| walk_at "ev0") => `(tactic| with_reducible refine toRefU ‹_› fun p st1 hu => ?_)
local macro_rules | `(tactic| walk_at "ev0") => `(tactic| ((with_reducible refine go_litems (kvs := ?kvs) ?h ?hq); (case h => walk_at "cell")))
local macro_rules | `(tactic| walk_at "ev0") => `(tactic| ((with_reducible refine go_lenMD (kvs := ?kvs) ?h ?hq); (case h => walk_at "cell")))
local macro_rules | `(tactic| walk_at "ev0") => `(tactic| with_reducible refine go_lenMC ?_)
local macro_rules | `(tactic| walk_at "ev0") => `(tactic| with_reducible refine go_lenMT ?_)
local macro_rules | `(tactic| walk_at "ev0") => `(tactic| with_reducible refine go_lenML ?_)
local macro_rules | `(tactic| walk_at "ev0") => `(tactic| ((with_reducible refine go_isxB (b := ?b) ?h ?hq); (case h => exact if_pos rfl)))
local macro_rules | `(tactic| walk_at "ev0") => `(tactic| ((with_reducible refine go_isxO (b := ?b) ?h ?hq); (case h => exact if_pos rfl)))
local macro_rules | `(tactic| walk_at "ev0") => `(tactic| with_reducible refine go_seqB ?_)
local macro_rules | `(tactic| walk_at "ev0") => `(tactic| ((with_reducible refine go_fnH ?hl ?hq); (case hl => exact rfl)))
theorem eqB_tn0 {st : Store} {x : D} {xs : List D} {N n w : Nat} (g : Gd N n w (.tup (x :: xs))) (hN : N ≤ 10 ^ 12) (hn : n ≤ 64) : eqB st (.tup (x :: xs)) (.tup []) = some false := by
  obtain ⟨q, e, h1, h2, h3, h4, h5, h6⟩ := pl_pd hN _ g.1
  have a1 : pdR st (.tup (x :: xs)) = some q := pdR_of e
  have a2 : pdR st (.tup []) = some (.tuple []) := pdR_of rfl
  have s1 := shaped_of g hN hn e
  have s2 : SeqAt.shaped (.tuple []) = true := by decide +kernel
  have e' : (D.pds (x :: xs)).map PyData.tuple = some q := e
  have hq : PyData.eqv q (.tuple []) = false := by
    unfold D.pds at e'
    split at e'
    · cases e'
      rfl
    · cases e'
  show (match pdR st (.tup (x :: xs)), pdR st (.tup []) with
    | some a, some b => if SeqAt.shaped a = true ∧ SeqAt.shaped b = true then some (PyData.eqv a b) else none
    | _, _ => none) = _
  rw [a1, a2]
  simp only [s1, s2, and_self, if_true, hq]
section
variable {st : Store} {P : D → Store → Prop} {ds : List D} {p : Nat}
theorem gd_e00 : Gd (10 ^ 12) 64 1000000 (.tup []) := (Gd.tup (n := 0) (Gds.nil (w := 0))).le (by decide) (by decide)
theorem go_neE0 (g : Gd (10 ^ 12) 64 1000000 (.tup ds)) (q : P (.bl (!ds.isEmpty)) st) : (neD (.tup ds) (.tup []) st).holds E P := by
  cases ds with
  | nil => exact go_neG gd_e00 q
  | cons x xs => exact go_neX (eqB_tn0 g (Nat.le_refl _) (Nat.le_refl _)) q
end
theorem gd_strle {N n k : Nat} {w : Str} (g : Gd N n k (.str w)) : Gd N 0 k (.str w) := ⟨g.1, by unfold dep; omega, g.2.2⟩
theorem len_keysL {ls : List (Int × D)} : (keysL ls).length = ls.length := List.length_map _
theorem UrnL.sw22 {a b c d : Nat × SObj} {L : List (Nat × SObj)} {B u : Nat} {st : Store} (h : UrnL (a :: b :: c :: d :: L) B st u) : UrnL (c :: d :: a :: b :: L) B st u :=
  h.perm (List.perm_append_comm (l₁ := [c, d]) (l₂ := [a, b]) |>.append_right L)
abbrev LMN (d : Nat) (n : Int) : SObj := .cell (.od false [(.k (.inr "letters"), .ref d), (.k (.inr "coming"), .int n)])
/-- what a deed of a post tells, and leads to -/
def told (x : D) : D := .tup [.str "told", x]
def due (ls : List (Int × D)) (n : Int) (w : Str) (x : D) : D × List (Int × D) × Int :=
  if w = "send" then (told (.int n), ls ++ [(n, x)], n + 1) else
  match x with
  | .int i => match lkL ls i with
    | some y => if w = "double" then (told (.int n), ls ++ [(n, y)], n + 1) else (told (if w = "carry" then y else .non), drpL ls i, n)
    | none => (.tup [.str "NoLetter", x], ls, n)
  | _ => (.tup [.str "NoLetter", x], ls, n)
theorem due_send {ls : List (Int × D)} {n : Int} {x : D} : due ls n "send" x = (told (.int n), ls ++ [(n, x)], n + 1) := if_pos rfl
theorem due_no {ls : List (Int × D)} {n : Int} {w : Str} {x : D} (hw : ¬ w = "send") (h : getL ls x = none) : due ls n w x = (.tup [.str "NoLetter", x], ls, n) := by
  unfold due
  rw [if_neg hw]
  cases x with
  | int i =>
    have h : lkL ls i = none := h
    simp only [h]
  | _ => rfl
theorem due_dbl {ls : List (Int × D)} {n i : Int} {y : D} (h : lkL ls i = some y) : due ls n "double" (.int i) = (told (.int n), ls ++ [(n, y)], n + 1) := by
  unfold due
  rw [if_neg (by decide +kernel)]
  simp only [h]
  exact if_pos trivial
theorem due_car {ls : List (Int × D)} {n i : Int} {y : D} (h : lkL ls i = some y) : due ls n "carry" (.int i) = (told y, drpL ls i, n) := by
  unfold due
  rw [if_neg (by decide +kernel)]
  simp only [h]
  rw [if_neg (by decide +kernel), if_pos trivial]
theorem due_los {ls : List (Int × D)} {n i : Int} {y : D} (h : lkL ls i = some y) : due ls n "lose" (.int i) = (told .non, drpL ls i, n) := by
  unfold due
  rw [if_neg (by decide +kernel)]
  simp only [h]
  rw [if_neg (by decide +kernel), if_neg (by decide +kernel)]
abbrev W4p : List Str := ["send", "carry", "lose", "double"]
theorem due_inv {ls : List (Int × D)} {n : Int} {w : Str} {x : D} (h : PInv ls n) (hw : w ∈ W4p) (g : w = "send" → Gd (10 ^ 12) 1 300 x) : PInv (due ls n w x).2.1 (due ls n w x).2.2 ∧ n ≤ (due ls n w x).2.2 ∧ (due ls n w x).2.2 ≤ n + 1 := by
  by_cases hs : w = "send"
  · subst hs
    rw [due_send]
    exact ⟨h.app (g rfl), by show n ≤ n + 1; omega, by show n + 1 ≤ n + 1; omega⟩
  · cases e : getL ls x with
    | none =>
      rw [due_no hs e]
      exact ⟨h, Int.le_refl _, by show n ≤ n + 1; omega⟩
    | some y =>
      cases x with
      | int i =>
        have e : lkL ls i = some y := e
        simp only [List.mem_cons, List.not_mem_nil, or_false] at hw
        rcases hw with rfl | rfl | rfl | rfl
        · exact absurd rfl hs
        · rw [due_car e]; exact ⟨h.drp, Int.le_refl _, by show n ≤ n + 1; omega⟩
        · rw [due_los e]; exact ⟨h.drp, Int.le_refl _, by show n ≤ n + 1; omega⟩
        · rw [due_dbl e]; exact ⟨h.app (h.gd _ (lkL_mem e)), by show n ≤ n + 1; omega, by show n + 1 ≤ n + 1; omega⟩
      | _ => cases e
theorem gd_told {x : D} {k w : Nat} (g : Gd (10 ^ 12) k w x) : Gd (10 ^ 12) (k + 1) (w + 20) (told x) :=
  (Gd.tup (Gds.cons (gd_str (w := 10) (by decide +kernel) (by decide +kernel)) (Gds.cons g (Gds.nil (w := 0))))).le (Nat.le_refl _) (by omega)
theorem due_gd {ls : List (Int × D)} {n : Int} {w : Str} {x : D} (h : PInv ls n) (hn : n ≤ 100000) (hw : w ∈ W4p) (g : Gd (10 ^ 12) 20 10000 x) : Gd (10 ^ 12) 30 20000 (due ls n w x).1 := by
  have h0 : 0 ≤ n := Int.le_trans (Int.natCast_nonneg _) h.len
  have h12 : (10 : Nat) ^ 12 = 1000000000000 := by decide
  have gn : Gd (10 ^ 12) 30 20000 (told (.int n)) := (gd_told (k := 0) (gd_int (by omega))).le (by decide) (by decide)
  by_cases hs : w = "send"
  · subst hs
    rw [due_send]
    exact gn
  · cases e : getL ls x with
    | none =>
      rw [due_no hs e]
      exact (Gd.tup (Gds.cons (gd_str (w := 10) (by decide +kernel) (by decide +kernel)) (Gds.cons g (Gds.nil (w := 0))))).le (by decide) (by decide)
    | some y =>
      cases x with
      | int i =>
        have e : lkL ls i = some y := e
        simp only [List.mem_cons, List.not_mem_nil, or_false] at hw
        rcases hw with rfl | rfl | rfl | rfl
        · exact absurd rfl hs
        · rw [due_car e]; exact (gd_told (h.gd _ (lkL_mem e))).le (by decide) (by decide)
        · rw [due_los e]; exact (gd_told (k := 0) gd_non).le (by decide) (by decide)
        · rw [due_dbl e]; exact gn
      | _ => cases e
section
variable {L : List (Nat × SObj)} {B u : Nat} {st : Store} {P : D → Store → Prop} {c d m : Nat} {n : Int} {ls : List (Int × D)} {x : D} {w : Str} {N : Nat}
theorem go_ix1 {d : D} (q : P d st) : (ixD (.lst [d]) (.int 0) st).holds E P := go_ix (x := .lst [d]) rfl q
local macro_rules | `(tactic| walk_at "ev0") => `(tactic| with_reducible refine go_ix1 ?_)
theorem go_which {E : ErP} {fs : List (Str × D)} (q : P (.str "NoLetter") st) : (F__law_which [.exc "NoLetter" fs] st).holds E P := by
  unfold F__law_which
  with_reducible refine go_fn (n := 1) (by simp only [List.length_cons, List.length_nil]) ?_
  unfold B__law_which
  walk_at "ev"
  with_reducible refine go_lc0 ?_
  walk_at "ev"
  with_reducible refine go_lc0 ?_
  walk_at "ev"
  refine go_eqG ((Gd.lst (n := 0) (Gds.cons (gd_str (w := 10) (by decide +kernel) (by decide +kernel)) (Gds.nil (w := 0)))).le (by decide) (by decide)) ?_
  walk_at "ev"
  exact q
theorem go_due (hu : UrnL ((m, LMN d n) :: (d, LTC ls) :: L) B st u) (hi : PInv ls n) (hl : ls.length < 50000) (hw : w ∈ W4p) (hp : pl N x = true)
    (q : ∀ st', UrnL ((m, LMN d (due ls n w x).2.2) :: (d, LTC (due ls n w x).2.1) :: L) B st' u → P (due ls n w x).1 st') : (F__law_post_due [.ref m, .tup [.str w, x]] st).holds E P := by
  have hm := hu.any (i := 0) rfl
  have hd := hu.any (i := 1) rfl
  unfold F__law_post_due
  with_reducible refine go_fn (n := 2) (by simp only [List.length_cons, List.length_nil]) ?_
  unfold B__law_post_due
  by_cases hs : w = "send"
  · subst hs
    rw [due_send] at q
    walk_at "ev"
    with_reducible refine go_setRD (k := .k (.inl n)) hd rfl rfl (by rw [len_LT]; omega) ?_
    rw [put_LT hi.new]
    have hu2 := hu.put (i := 1) (o' := LTC (ls ++ [(n, x)])) rfl
    dsimp only [List.set] at hu2
    clear hm hd hu
    revert hu2
    generalize st.set d (LTC (ls ++ [(n, x)])) = s2
    intro hu2
    have hm := hu2.any (i := 0) rfl
    walk_at "ev"
    rw [show n + 1 - 1 = n by omega]
    exact q _ (hu2.put (i := 0) (o' := LMN d (n + 1)) rfl)
  · have hs' : decide (w = "send") = false := decide_eq_false hs
    walk_at "ev"
    refine go__law_whole hp ?_
    cases x with
    | int i =>
      show (∃ c, D.bl true = .bl c ∧ _)
      walk_at "ev"
      with_reducible refine go_notinLT hd ?_
      cases e : lkL ls i with
      | none =>
        rw [due_no hs (show getL ls (.int i) = none from e)] at q
        show (∃ c, D.bl true = .bl c ∧ _)
        walk_at "ev"
        exact q _ hu
      | some y =>
        show (∃ c, D.bl false = .bl c ∧ _)
        simp only [List.mem_cons, List.not_mem_nil, or_false] at hw
        rcases hw with rfl | rfl | rfl | rfl
        · exact absurd rfl hs
        · rw [due_car e] at q
          walk_at "ev"
          with_reducible refine go_dpopD hd rfl (lk_LT.trans e) ?_
          rw [drp_LT]
          walk_at "ev"
          exact q _ (hu.put (i := 1) (o' := LTC (drpL ls i)) rfl)
        · rw [due_los e] at q
          walk_at "ev"
          with_reducible refine go_dpopD hd rfl (lk_LT.trans e) ?_
          rw [drp_LT]
          walk_at "ev"
          exact q _ (hu.put (i := 1) (o' := LTC (drpL ls i)) rfl)
        · rw [due_dbl e] at q
          walk_at "ev"
          with_reducible refine go_ixLT hd e ?_
          walk_at "ev"
          with_reducible refine go_setRD (k := .k (.inl n)) hd rfl rfl (by rw [len_LT]; omega) ?_
          rw [put_LT hi.new]
          have hu2 := hu.put (i := 1) (o' := LTC (ls ++ [(n, y)])) rfl
          dsimp only [List.set] at hu2
          clear hm hd hu
          revert hu2
          generalize st.set d (LTC (ls ++ [(n, y)])) = s2
          intro hu2
          have hm := hu2.any (i := 0) rfl
          walk_at "ev"
          rw [show n + 1 - 1 = n by omega]
          exact q _ (hu2.put (i := 0) (o' := LMN d (n + 1)) rfl)
    | _ =>
      rw [due_no hs rfl] at q
      show (∃ c, D.bl false = .bl c ∧ _)
      walk_at "ev"
      exact q _ hu
theorem go_does (hu : UrnL ((c, PST d n) :: (d, LTC ls) :: L) B st u) (hi : PInv ls n) (hl : ls.length < 50000) (hw : w ∈ W4p) (hp : pl N x = true)
    (q : ∀ st', UrnL ((c, PST d (due ls n w x).2.2) :: (d, LTC (due ls n w x).2.1) :: L) B st' u → P (due ls n w x).1 st') : (F__law_post_does [.ref c, .tup [.str w, x]] st).holds E P := by
  have hc := hu.any (i := 0) rfl
  have hd := hu.any (i := 1) rfl
  unfold F__law_post_does
  with_reducible refine go_fn (n := 2) (by simp only [List.length_cons, List.length_nil]) ?_
  unfold B__law_post_does
  simp only [List.mem_cons, List.not_mem_nil, or_false] at hw
  have no : ∀ {w : Str}, ¬ w = "send" → getL ls x = none → due ls n w x = (.tup [.str "NoLetter", x], ls, n) := fun h e => due_no h e
  rcases hw with rfl | rfl | rfl | rfl
  · rw [due_send] at q
    walk_at "ev"
    with_reducible refine go_try ?_
    walk_at "ev"
    with_reducible refine go_post_send hu hi.new (by omega) fun st' hu2 => ?_
    walk_at "ev"
    exact q _ hu2
  · walk_at "ev"
    with_reducible refine go_try ?_
    walk_at "ev"
    refine go_post_carry hu hp (fun i y st' e1 e2 hu2 => ?_) (fun e => ?_)
    · subst e1
      rw [due_car e2] at q
      walk_at "ev"
      exact q _ hu2
    · rw [no (by decide +kernel) e] at q
      refine ⟨by simp, ?_⟩
      refine go_hdAs (by simp) ?_
      walk_at "ev"
      with_reducible refine go_which ?_
      walk_at "ev"
      refine go_xf (d := x) (by unfold lkF; exact if_pos rfl) ?_
      walk_at "ev"
      exact q _ hu
  · walk_at "ev"
    with_reducible refine go_try ?_
    walk_at "ev"
    refine go_post_lose hu hp (fun i y st' e1 e2 hu2 => ?_) (fun e => ?_)
    · subst e1
      rw [due_los e2] at q
      walk_at "ev"
      exact q _ hu2
    · rw [no (by decide +kernel) e] at q
      refine ⟨by simp, ?_⟩
      refine go_hdAs (by simp) ?_
      walk_at "ev"
      with_reducible refine go_which ?_
      walk_at "ev"
      refine go_xf (d := x) (by unfold lkF; exact if_pos rfl) ?_
      walk_at "ev"
      exact q _ hu
  · walk_at "ev"
    with_reducible refine go_try ?_
    walk_at "ev"
    refine go_post_double hu hi.new (by omega) hp (fun i y st' e1 e2 hu2 => ?_) (fun e => ?_)
    · subst e1
      rw [due_dbl e2] at q
      walk_at "ev"
      exact q _ hu2
    · rw [no (by decide +kernel) e] at q
      refine ⟨by simp, ?_⟩
      refine go_hdAs (by simp) ?_
      walk_at "ev"
      with_reducible refine go_which ?_
      walk_at "ev"
      refine go_xf (d := x) (by unfold lkF; exact if_pos rfl) ?_
      walk_at "ev"
      exact q _ hu
end
end
set_option maxRecDepth 100000
set_option autoImplicit false
set_option maxHeartbeats 1000000
set_option linter.all false
set_option pp.maxSteps 3000
set_option pp.deepTerms false
section
open PySem EV L2 PyProof.Rows
variable {E : ErP} {Ee : ErS}
local macro_rules | `(tactic| walk_at "ev2") => `(tactic| walk_at "evo")
local macro_rules | `(tactic| walk_at "ev2") => `(tactic| with_reducible exact all_mem0)
local macro_rules | `(tactic| walk_at "ev2") => `(tactic| with_reducible refine all_mem1 ?_ ?_)
local macro_rules | `(tactic| walk_at "ev2") => `(tactic| with_reducible refine go_pickT (by omega) (by first | omega | (simp only [List.length_cons, List.length_nil]; omega)) ?_)
local macro_rules | `(tactic| walk_at "ev2") => `(tactic| with_reducible refine go_pick (by omega) (by first | omega | (simp only [List.length_cons, List.length_nil]; omega)) ?_)
local macro_rules | `(tactic| walk_at "ev2") => `(tactic| (with_reducible refine draw ‹_› (by omega) (by omega) (by omega) fun r st1 r0 r1 h1 hl => ?_))
local macro_rules | `(tactic| walk_at "ev0") => `(tactic| with_reducible refine go_pickW (by omega) (by walk_at "lt") (by decide +kernel) fun w gw => ?_)
local macro_rules | `(tactic| walk_at "ev0") => `(tactic| with_reducible refine toRefDU ‹_› fun p st1 hu => ?_)
local macro_rules | `(tactic| walk_at "ev0") => `(tactic| with_reducible refine toRefU ‹_› fun p st1 hu => ?_)
local macro_rules | `(tactic| walk_at "ev0") => `(tactic| ((with_reducible refine go_litems (kvs := ?kvs) ?h ?hq); (case h => walk_at "cell")))
local macro_rules | `(tactic| walk_at "ev0") => `(tactic| ((with_reducible refine go_lenMD (kvs := ?kvs) ?h ?hq); (case h => walk_at "cell")))
local macro_rules | `(tactic| walk_at "ev0") => `(tactic| with_reducible refine go_lenMC ?_)
local macro_rules | `(tactic| walk_at "ev0") => `(tactic| with_reducible refine go_lenMT ?_)
local macro_rules | `(tactic| walk_at "ev0") => `(tactic| with_reducible refine go_lenML ?_)
local macro_rules | `(tactic| walk_at "ev0") => `(tactic| ((with_reducible refine go_isxB (b := ?b) ?h ?hq); (case h => exact if_pos rfl)))
local macro_rules | `(tactic| walk_at "ev0") => `(tactic| ((with_reducible refine go_isxO (b := ?b) ?h ?hq); (case h => exact if_pos rfl)))
local macro_rules | `(tactic| walk_at "ev0") => `(tactic| ((with_reducible refine go_boolP (d := ?dd) (n := ?nn) (ls := ?lls) ?h ?hd ?hl ?hq); (case h => assumption); (case hd => assumption); (case hl => omega)))
local macro_rules | `(tactic| walk_at "ev0") => `(tactic| ((with_reducible refine go_lenP (d := ?dd) (n := ?nn) (ls := ?lls) ?h ?hd ?hl ?hq); (case h => assumption); (case hd => assumption); (case hl => omega)))
theorem lcL_mapP {α : Type} {p : Pat} {te : En → Store → Res D} {env : En} {st : Store} {f g : α → D} : ∀ {l : List α}, (∀ x ∈ l, ∃ bs, Pat.bind p (f x) = some bs ∧ (te (bindE env bs) st).holds noE fun y s => y = g x ∧ s = st) → lcL p ttYes te env (l.map f) st = .ok (l.map g) st
  | [], _ => rfl
  | x :: l, h => by
    obtain ⟨bs, e1, e2⟩ := h x List.mem_cons_self
    have ih := lcL_mapP (l := l) fun y hy => h y (List.mem_cons_of_mem _ hy)
    rw [List.map_cons]
    unfold lcL
    simp only [e1, ttYes, Res.bind0, if_true, Res.eq_of e2, ih]
    rfl
theorem go_vLcMP {α : Type} {p : Pat} {te : En → Store → Res D} {env : En} {st : Store} {fi : En → Store → Res (List D)} {vs : List Nat} {PS : EV.Slot → Store → Prop} (l : List α) (f g : α → D)
    (q : (fi env st).holds E fun ds st => ds = l.map f ∧ l.length ≤ 1000 ∧ (∀ x ∈ l, ∃ bs, Pat.bind p (f x) = some bs ∧ (te (bindE (wipeE env vs) bs) st).holds noE fun y s => y = g x ∧ s = st) ∧ PS (.ol (l.map g)) st) : (vLc fi p vs ttYes te env st).holds E PS := by
  unfold vLc
  rw [Res.holds_bind]
  refine q.imp fun ds st h => ?_
  obtain ⟨rfl, h1, h2, h3⟩ := h
  rw [lcL_mapP h2]
  refine go_mkLst ?_ h3
  rw [List.length_map]
  exact h1
section
variable {L : List (Nat × SObj)} {B u : Nat} {st : Store} {P : D → Store → Prop} {c d m : Nat} {n : Int} {ls : List (Int × D)} {x : D} {w : Str} {N : Nat}
theorem go_letter (hu : UrnL L B st u) (hB : B ≤ 900000) (q : ∀ x st', Gd (10 ^ 12) 1 300 x → UrnL L (B + 20) st' u → P x st') : (F__law_letter [.ref u] st).holds E P := by
  have h12 : (10 : Nat) ^ 12 = 1000000000000 := by decide
  unfold F__law_letter
  with_reducible refine go_fn (n := 1) (by simp only [List.length_cons, List.length_nil]) ?_
  unfold B__law_letter
  walk_at "ev"
  · rename_i r1 s1 r10 r11 hu1 _ r2 s2 r20 r21 hu2 _ r3 s3 r30 r31 hu3 _ _
    with_reducible refine go_lc0 ?_
    walk_at "ev"
    rename_i r4 s4 r40 r41 hu4 _
    with_reducible refine go_rng1 (by omega) ?_
    refine go_nm rfl ?_
    refine lcp_rng (fun j ys s => ys.length = j ∧ Gds (10 ^ 12) 0 (41 * j) ys ∧ UrnL L (B + 4 + j) s u) ⟨rfl, Gds.nil, hu4⟩ ?_ ?_
    · rintro ys s ⟨hl, hg, hu5⟩
      have hj : r4.toNat ≤ 6 := by omega
      refine ⟨by omega, ?_⟩
      walk_at "ev"
      exact q _ _ ((Gd.tup hg).le (Nat.le_refl _) (by omega)) (hu5.le (by omega))
    · rintro j ys s hj ⟨hl, hg, hu5⟩
      have hj : j < 6 := by omega
      refine ⟨_, rfl, ?_⟩
      walk_at "ev"
      all_goals
        rename_i hu6 _
        refine ⟨by rw [List.length_append, hl]; rfl, (Gds.app hg (Gds.cons (w := 40) (w' := 0) ?_ Gds.nil)).le (Nat.le_refl _) (by omega), hu6.le (by omega)⟩
        first
        | exact gd_int (by decide)
        | exact (gd_str (w := 5) (by decide +kernel) (by decide +kernel)).le (Nat.le_refl _) (by decide)
  · exact q _ _ ((Gd.tup (n := 0) (Gds.cons (gd_str (w := 10) (by decide +kernel) (by decide +kernel)) (Gds.cons (gd_int (by omega)) (Gds.cons (gd_int (by omega)) (Gds.nil (w := 0)))))).le (Nat.le_refl _) (by decide)) (UrnL.le ‹_› (by omega))
  · exact q _ _ ((Gd.tup (n := 0) (Gds.cons (gd_str (w := 10) (by decide +kernel) (by decide +kernel)) (Gds.cons (gd_int (by omega)) (Gds.cons (gd_int (by omega)) (Gds.cons (gd_strle (Gd.up ‹Gd 1000 1 10 _› (by decide))) (Gds.nil (w := 0))))))).le (Nat.le_refl _) (by decide)) (UrnL.le ‹_› (by omega))
end
theorem srt_up {ls : List (Int × D)} {n : Int} (h : PInv ls n) : srt (keysL ls) = keysL ls :=
  (srt_uniq (List.Perm.refl _) (h.up.imp fun h => Int.le_of_lt h)).symm
theorem go_pickS {ws : List Str} {r : Int} {st : Store} {P : D → Store → Prop} (h0 : 0 ≤ r) (h1 : r < ws.length) (q : ∀ w ∈ ws, P (.str w) st) : (ixD (.lst (ws.map .str)) (.int r) st).holds E P :=
  go_pick h0 (by rw [List.length_map]; exact h1) fun d hd => by
    obtain ⟨w, hw, rfl⟩ := List.mem_map.mp hd
    exact q w hw
theorem go_pick6 {r : Int} {st : Store} {P : D → Store → Prop} (h0 : 0 ≤ r) (h1 : r < 6) (q : ∀ w ∈ W4p, P (.str w) st) : (ixD (.lst [.str "send", .str "send", .str "carry", .str "lose", .str "double", .str "carry"]) (.int r) st).holds E P :=
  go_pickS (ws := ["send", "send", "carry", "lose", "double", "carry"]) h0 h1 fun w hw => q w (by
    simp only [List.mem_cons, List.not_mem_nil, or_false] at hw ⊢
    rcases hw with h | h | h | h | h | h <;> simp [h])
local macro_rules | `(tactic| walk_at "ev0") => `(tactic| with_reducible refine go_pick6 (by omega) (by omega) ?_)
end
set_option maxRecDepth 100000
set_option autoImplicit false
set_option maxHeartbeats 2000000
set_option linter.all false
set_option pp.maxSteps 3000
set_option pp.deepTerms false
section
open PySem EV L2 PyProof.Rows
variable {E : ErP} {Ee : ErS}
local macro_rules | `(tactic| walk_at "ev2") => `(tactic| walk_at "evo")
local macro_rules | `(tactic| walk_at "ev2") => `(tactic| with_reducible exact all_mem0)
local macro_rules | `(tactic| walk_at "ev2") => `(tactic| with_reducible refine all_mem1 ?_ ?_)
local macro_rules | `(tactic| walk_at "ev2") => `(tactic| with_reducible refine go_pickT (by omega) (by first | omega | (simp only [List.length_cons, List.length_nil]; omega)) ?_)
local macro_rules | `(tactic| walk_at "ev2") => `(tactic| with_reducible refine go_pick (by omega) (by first | omega | (simp only [List.length_cons, List.length_nil]; omega)) ?_)
local macro_rules | `(tactic| walk_at "ev2") => `(tactic| (with_reducible refine draw ‹_› (by omega) (by omega) (by omega) fun r st1 r0 r1 h1 hl => ?_))
local macro_rules | `(tactic| walk_at "ev0") => `(tactic| with_reducible refine go_pickW (by omega) (by walk_at "lt") (by decide +kernel) fun w gw => ?_)
local macro_rules | `(tactic| walk_at "ev0") => `(tactic| with_reducible refine toRefDU ‹_› fun p st1 hu => ?_)
local macro_rules | `(tactic| walk_at "ev0") => `(tactic| with_reducible refine toRefU ‹_› fun p st1 hu => ?_)
local macro_rules | `(tactic| walk_at "ev0") => `(tactic| ((with_reducible refine go_litems (kvs := ?kvs) ?h ?hq); (case h => walk_at "cell")))
local macro_rules | `(tactic| walk_at "ev0") => `(tactic| ((with_reducible refine go_lenMD (kvs := ?kvs) ?h ?hq); (case h => walk_at "cell")))
local macro_rules | `(tactic| walk_at "ev0") => `(tactic| with_reducible refine go_lenMC ?_)
local macro_rules | `(tactic| walk_at "ev0") => `(tactic| with_reducible refine go_lenMT ?_)
local macro_rules | `(tactic| walk_at "ev0") => `(tactic| with_reducible refine go_lenML ?_)
local macro_rules | `(tactic| walk_at "ev0") => `(tactic| ((with_reducible refine go_isxB (b := ?b) ?h ?hq); (case h => exact if_pos rfl)))
local macro_rules | `(tactic| walk_at "ev0") => `(tactic| ((with_reducible refine go_isxO (b := ?b) ?h ?hq); (case h => exact if_pos rfl)))
local macro_rules | `(tactic| walk_at "ev0") => `(tactic| ((with_reducible refine go_boolP (d := ?dd) (n := ?nn) (ls := ?lls) ?h ?hd ?hl ?hq); (case h => assumption); (case hd => assumption); (case hl => omega)))
local macro_rules | `(tactic| walk_at "ev0") => `(tactic| ((with_reducible refine go_lenP (d := ?dd) (n := ?nn) (ls := ?lls) ?h ?hd ?hl ?hq); (case h => assumption); (case hd => assumption); (case hl => omega)))
theorem keys_LTd {ls : List (Int × D)} : ((LT ls).map fun p => dkD p.1) = (keysL ls).map D.int := by
  unfold LT keysL
  rw [List.map_map, List.map_map]
  rfl
theorem go_sortM {st : Store} {ts : List Int} {PS : EV.Slot → Store → Prop} (q : PS (.ol ((srt ts).map D.int)) st) : (sortedD [.lst (ts.map D.int)] st).holds E PS := by
  show Res.holds (match intsOf (ts.map D.int) with
    | some ns => .ok (.ol ((srt ns).map .int)) st
    | none => .stuck) E PS
  rw [intsOf_map]
  exact q
/-- a number taken out of the row of numbers is the letter gone -/
theorem keys_drp : ∀ {ls : List (Int × D)} {k : Nat} {i : Int}, (keysL ls).Nodup → (keysL ls)[k]? = some i → keysL (drpL ls i) = (keysL ls).eraseIdx k
  | [], k, i, _, h => nomatch h
  | p :: ls, 0, i, nd, h => by
    have e : p.1 = i := Option.some.inj h
    have h1 : drpL (p :: ls) i = drpL ls i := List.filter_cons_of_neg (by simp [e])
    have n1 : i ∉ keysL ls := by rw [← e]; exact (List.nodup_cons.mp nd).1
    rw [h1]
    show keysL (drpL ls i) = keysL ls
    have h2 : drpL ls i = ls := List.filter_eq_self.mpr fun q hq => by
      have hne : q.1 ≠ i := fun z => n1 (by rw [← z]; exact List.mem_map_of_mem (f := Prod.fst) hq)
      simp [hne]
    rw [h2]
  | p :: ls, k + 1, i, nd, h => by
    obtain ⟨n1, n2⟩ := List.nodup_cons.mp nd
    have h' : (keysL ls)[k]? = some i := by simpa [keysL] using h
    have hne : p.1 ≠ i := fun z => n1 (by
      have := List.mem_of_getElem? h'
      rw [← z] at this
      exact this)
    have h1 : drpL (p :: ls) i = p :: drpL ls i := List.filter_cons_of_pos (by simp [hne])
    rw [h1]
    show p.1 :: keysL (drpL ls i) = p.1 :: (keysL ls).eraseIdx k
    rw [keys_drp n2 h']
theorem lk_some {ls : List (Int × D)} {i : Int} (h : i ∈ keysL ls) : ∃ y, lkL ls i = some y := by
  cases e : lkL ls i with
  | some y => exact ⟨y, rfl⟩
  | none => exact absurd h (lkL_none.mp e)
theorem UrnL.rot5 {a b c d e : Nat × SObj} {B u : Nat} {st : Store} (h : UrnL (a :: b :: c :: d :: e :: []) B st u) : UrnL (e :: a :: b :: c :: d :: []) B st u := h.perm (List.perm_append_comm (l₁ := [e]) (l₂ := [a, b, c, d]))
theorem pop_num {ls : List (Int × D)} {k : Nat} {x : D} (h : ((keysL ls).map D.int)[k]? = some x) : ∃ num, (keysL ls)[k]? = some num ∧ x = .int num := by
  rw [List.getElem?_map] at h
  cases e : (keysL ls)[k]? with
  | none => rw [e] at h; cases h
  | some num =>
    rw [e] at h
    exact ⟨num, rfl, (Option.some.inj h).symm⟩
theorem erase_map : ∀ {ks : List Int} {k : Nat}, (ks.map D.int).eraseIdx k = (ks.eraseIdx k).map D.int
  | [], _ => rfl
  | _ :: _, 0 => rfl
  | x :: ks, k + 1 => by
    show D.int x :: (ks.map D.int).eraseIdx k = D.int x :: (ks.eraseIdx k).map D.int
    rw [erase_map]
theorem pop_len {ls : List (Int × D)} {k : Nat} {num : Int} (nd : (keysL ls).Nodup) (h : (keysL ls)[k]? = some num) : (drpL ls num).length + 1 = ls.length := by
  have hl := (List.getElem?_eq_some_iff.mp h).1
  have e := congrArg List.length (keys_drp nd h)
  rw [len_keysL, List.length_eraseIdx_of_lt hl, len_keysL] at e
  rw [len_keysL] at hl
  omega
theorem pop_urn {c e b d p B u : Nat} {n : Int} {ls : List (Int × D)} {st : Store} {k : Nat} {num : Int} (hu : UrnL ((p, .cell (.ol ((keysL ls).map D.int))) :: (c, PST e n) :: (e, LTC ls) :: (b, LMN d n) :: (d, LTC ls) :: []) B st u) (nd : (keysL ls).Nodup) (h : (keysL ls)[k]? = some num) :
    UrnL ((c, PST e n) :: (e, LTC ls) :: (b, LMN d n) :: (d, LTC ls) :: (p, .cell (.ol ((keysL (drpL ls num)).map D.int))) :: []) B (st.set p (.cell (.ol (((keysL ls).map D.int).eraseIdx k)))) u := by
  rw [keys_drp nd h, ← erase_map]
  exact (hu.put (i := 0) (o' := .cell (.ol (((keysL ls).map D.int).eraseIdx k))) rfl).perm (List.perm_append_comm (l₁ := [(c, PST e n), (e, LTC ls), (b, LMN d n), (d, LTC ls)]) (l₂ := [(p, .cell (.ol (((keysL ls).map D.int).eraseIdx k)))]))
theorem eqB_ln0 {st : Store} {p : Nat} {x : D} {xs : List D} {N n w : Nat} (h : st[p]? = some (.cell (.ol (x :: xs)))) (g : Gd N n w (.lst (x :: xs))) (hN : N ≤ 10 ^ 12) (hn : n ≤ 64) : eqB st (.ref p) (.lst []) = some false := by
  obtain ⟨q, e, h1, h2, h3, h4, h5, h6⟩ := pl_pd hN _ g.1
  have hs : rsv st 3 (.ref p) = some (.lst (x :: xs)) := by
    unfold rsv rsvW
    simp only [h]
    exact rsv_pl g.1
  have a1 := pdR_rsv hs e
  have a2 : pdR st (.lst []) = some (.list []) := pdR_of rfl
  have s1 := shaped_of g hN hn e
  have s2 : SeqAt.shaped (.list []) = true := by decide +kernel
  have e' : (D.pds (x :: xs)).map PyData.list = some q := e
  have hq : PyData.eqv q (.list []) = false := by
    unfold D.pds at e'
    split at e'
    · cases e'
      rfl
    · cases e'
  show (match pdR st (.ref p), pdR st (.lst []) with
    | some a, some b => if SeqAt.shaped a = true ∧ SeqAt.shaped b = true then some (PyData.eqv a b) else none
    | _, _ => none) = _
  rw [a1, a2]
  simp only [s1, s2, and_self, if_true, hq]
theorem go_neRE0 {st : Store} {P : D → Store → Prop} {p : Nat} {ds : List D} (h : st[p]? = some (.cell (.ol ds))) (g : Gd (10 ^ 12) 64 1000000 (.lst ds)) (q : P (.bl (!ds.isEmpty)) st) : (neD (.ref p) (.lst []) st).holds E P := by
  cases ds with
  | nil =>
    have gl : Gd (10 ^ 12) 64 1000000 (.lst []) := (Gd.lst (n := 0) (Gds.nil (w := 0))).le (by decide) (by decide)
    have e1 : rsv st 3 (.ref p) = some (.lst []) := by
      unfold rsv rsvW
      simp only [h]
      exact rsv_pl gl.1
    refine go_neX (b := true) (eqB_same (d := .lst []) e1 (rsv_pl gl.1) gl (Nat.le_refl _) (Nat.le_refl _)) ?_
    exact q
  | cons x xs => exact go_neX (eqB_ln0 h g (Nat.le_refl _) (Nat.le_refl _)) q
theorem go_pick3 {r : Int} {st : Store} {P : D → Store → Prop} (h0 : 0 ≤ r) (h1 : r < 3) (q : ∀ w ∈ W4p, P (.str w) st) : (ixD (.lst [.str "double", .str "double", .str "lose"]) (.int r) st).holds E P :=
  go_pickS (ws := ["double", "double", "lose"]) h0 h1 fun w hw => q w (by
    simp only [List.mem_cons, List.not_mem_nil, or_false] at hw ⊢
    rcases hw with h | h | h <;> simp [h])
local macro_rules | `(tactic| walk_at "ev0") => `(tactic| with_reducible refine go_pick3 (by omega) (by omega) ?_)
local macro_rules | `(tactic| walk_at "ev0") => `(tactic| ((with_reducible refine go_neE (kvs := ?kk) ?h ?h2 ?hq); (case h => walk_at "cell"); (case h2 => walk_at "cell")))
section
variable {L : List (Nat × SObj)} {B u : Nat} {st : Store} {P : D → Store → Prop} {c d e m : Nat} {n : Int} {ls : List (Int × D)}
theorem go_pstandsY (hu : UrnL ((c, PST e n) :: (e, LTC ls) :: (m, LMN d n) :: (d, LTC ls) :: L) B st u) (hi : PInv ls n) (hn : n ≤ 2000) (hl : ls.length ≤ 900) (q : P (.bl true) st) : (F__law_post_stands [.ref c, .ref m] st).holds E P := by
  have hc := hu.any (i := 0) rfl
  have he := hu.any (i := 1) rfl
  have hm := hu.any (i := 2) rfl
  have hd := hu.any (i := 3) rfl
  have g := gd_LI hi hn
  have hk : (keysL ls).length = ls.length := len_keysL
  unfold F__law_post_stands
  with_reducible refine go_fn (n := 2) (by simp only [List.length_cons, List.length_nil]) ?_
  unfold B__law_post_stands
  walk_at "ev"
  refine go_vLcMP ls (fun p => .int p.1) (fun p => .tup [.int p.1, p.2]) ?_
  walk_at "ev"
  with_reducible refine go_sortedY hd intK_LT ?_
  rw [srt_up hi]
  walk_at "ev"
  refine ⟨List.map_map, by omega, fun p hp => ⟨_, rfl, ?_⟩, ?_⟩
  · have hx : lkL ls p.1 = some p.2 := lkL_of hi.nd (by exact hp)
    walk_at "ev"
    with_reducible refine go_ixLT hd hx ?_
    walk_at "ev"
    exact ⟨rfl, rfl⟩
  · rw [show ls.map (fun p => D.tup [.int p.1, p.2]) = LI ls from rfl]
    have hLI : (LI ls).length = ls.length := List.length_map _
    have g64 : Gd (10 ^ 12) 64 1000000 (.tup (LI ls)) := g.le (by decide) (by decide)
    have hE : (LI ls).isEmpty = ls.isEmpty := by cases ls <;> rfl
    walk_at "ev"
    with_reducible refine go_post_under hc he ?_
    walk_at "ev"
    with_reducible refine go_shw g64 (Nat.le_refl _) (Nat.le_refl _) (Nat.le_refl _) ?_
    walk_at "ev"
    with_reducible refine go_shw g64 (Nat.le_refl _) (Nat.le_refl _) (Nat.le_refl _) ?_
    walk_at "ev"
    with_reducible refine go_neE0 g64 ?_
    rw [hE]
    refine go_eqG (gd_bl.le (Nat.zero_le _) (Nat.zero_le _)) ?_
    walk_at "ev"
    exact q
theorem go_right (hu0 : UrnL [] 0 st u) (q : ∀ st', P (.bl true) st') : (F__law_post_right [.ref u] st).holds E P := by
  have h12 : (10 : Nat) ^ 12 = 1000000000000 := by decide
  unfold F__law_post_right
  with_reducible refine go_fn (n := 1) (by simp only [List.length_cons, List.length_nil]) ?_
  unfold B__law_post_right
  walk_at "ev"
  with_reducible refine go_post_make hu0 fun c e st2 hu2 => ?_
  clear hu0
  walk_at "ev"
  rename_i d st3 hu3 b st4 hu4 r st5 r0 r1 hu5 hl5
  have hu6 : UrnL ((c, PST e 0) :: (e, LTC []) :: (b, LMN d 0) :: (d, LTC []) :: []) 10 st5 u := hu5.sw22.le (by decide)
  clear hu2 hu3 hu4 hu5
  with_reducible refine go_rng1 (by omega) ?_
  refine rng_loop (fun j env st => ∃ a3 a4 a5 a6 a7 ls n, env = [.vl (.ref u), .vl (.ref c), .vl (.ref b), a3, a4, a5, a6, a7] ∧ n ≤ (j : Int) ∧ PInv ls n ∧ UrnL ((c, PST e n) :: (e, LTC ls) :: (b, LMN d n) :: (d, LTC ls) :: []) (10 + 100 * j) st u)
    ⟨_, _, _, _, _, [], 0, rfl, by omega, PInv.nil, hu6⟩ ?_ ?_
  · rintro env st ⟨a3, a4, a5, a6, a7, ls, n, rfl, hn, hi, hu⟩
    have hll := hi.len
    walk_at "ev"
    with_reducible refine go_pstandsY hu hi (by omega) (by omega) ?_
    walk_at "ev"
    refine go_keysL (n := d) (kvs := LT ls) ?_
    have hd0 := hu.any (i := 3) rfl
    walk_at "ev"
    refine ⟨rfl, hd0, by rw [len_LT]; omega, ?_⟩
    rw [keys_LTd]
    clear hd0
    walk_at "ev"
    with_reducible refine go_sortM ?_
    rw [srt_up hi]
    walk_at "ev"
    rename_i p s8 hu8
    clear hu hu6
    refine go_while (fun k env s => ∃ (a3 a4 a5 a6 : EV.Slot) (ls' : List (Int × D)), env = [.vl (.ref u), .vl (.ref c), .vl (.ref b), a3, a4, a5, a6, .vl (.ref p)] ∧ ls'.length = k ∧ k ≤ 260 ∧ PInv ls' n ∧
        UrnL ((p, .cell (.ol ((keysL ls').map D.int))) :: (c, PST e n) :: (e, LTC ls') :: (b, LMN d n) :: (d, LTC ls') :: []) (30000 - 2 * k) s u) ?_ (k := ls.length) (by omega) ⟨_, _, _, _, ls, rfl, rfl, by omega, hi, hu8.le (by omega)⟩
    rintro k env s ⟨a3, a4, a5, a6, l1, rfl, hlk, hk260, i1, hu1⟩
    have hp1 := hu1.any (i := 0) rfl
    have hk1 : ((keysL l1).map D.int).length = l1.length := by rw [List.length_map]; exact len_keysL
    have gl : Gd (10 ^ 12) 64 1000000 (.lst ((keysL l1).map D.int)) := by
      have key : ∀ {ks : List Int}, (∀ x ∈ ks, x.natAbs < 10 ^ 12) → Gds (10 ^ 12) 0 (41 * ks.length) (ks.map D.int) := fun {ks} => by
        induction ks with
        | nil => exact fun _ => Gds.nil
        | cons x xs ih => exact fun h => (Gds.cons (gd_int (h x List.mem_cons_self)) (ih fun y hy => h y (List.mem_cons_of_mem _ hy))).le (Nat.le_refl _) (by rw [List.length_cons]; omega)
      have hkl := len_keysL (ls := l1)
      exact (Gd.lst (key fun x hx => by have := i1.lo x hx; omega)).le (by decide) (by omega)
    walk_at "ev"
    with_reducible refine go_neRE0 hp1 gl ?_
    cases l1 with
    | nil =>
      show (∃ c, D.bl false = .bl c ∧ _)
      walk_at "ev"
      have hu2 : UrnL ((c, PST e n) :: (e, LTC []) :: (b, LMN d n) :: (d, LTC []) :: (p, .cell (.ol ((keysL []).map D.int))) :: []) (30000 - 2 * k) s u := hu1.perm (List.perm_append_comm (l₁ := [(c, PST e n), (e, LTC []), (b, LMN d n), (d, LTC [])]) (l₂ := [(p, .cell (.ol ((keysL []).map D.int)))]))
      have hc2 := hu2.any (i := 0) rfl
      have he2 := hu2.any (i := 1) rfl
      with_reducible refine go_pstandsY hu2 i1 (by omega) (by omega) ?_
      walk_at "ev"
      exact q _
    | cons y l1 =>
      have hpos : 0 < ((keysL (y :: l1)).map D.int).length := by rw [hk1]; exact Nat.succ_pos _
      clear hp1
      show (∃ c, D.bl true = .bl c ∧ _)
      walk_at "ev"
      refine ⟨l1.length, by rw [← hlk]; exact Nat.lt_succ_self _, ?_⟩
      have hlk' : l1.length + 1 = k := hlk
      have hlk1 : ((keysL (y :: l1)).map D.int).length = l1.length + 1 := hk1
      walk_at "ev"
      all_goals
        rename_i hu3 _
        have hp3 := hu3.any (i := 0) rfl
        refine go_popD hp3 ⟨by omega, by omega, by omega⟩ fun x hx => ?_
        obtain ⟨num, hnum, rfl⟩ := pop_num hx
        obtain ⟨z, hz⟩ := lk_some (List.mem_of_getElem? hnum)
        have hlo := i1.lo num (List.mem_of_getElem? hnum)
        have hu5 := pop_urn hu3 i1.nd hnum
        have hln := pop_len i1.nd hnum
        have hlc : (y :: l1).length = l1.length + 1 := rfl
        have hd : due (y :: l1) n "carry" (.int num) = (told z, drpL (y :: l1) num, n) := due_car hz
        have hw : Str.ofString "carry" ∈ W4p := List.mem_cons_of_mem _ List.mem_cons_self
        have gx : Gd (10 ^ 12) 20 1000 (.int num) := (gd_int (by omega)).le (Nat.le_refl _) (by decide)
        have px := gx.1
        have gd := (due_gd i1 (by omega) hw (gx.le (by decide) (by decide))).le (n' := 64) (w' := 1000000) (by decide) (by decide)
        walk_at "ev"
        with_reducible refine go_does hu5 i1 (by omega) hw px fun s6 hu6 => ?_
        walk_at "ev"
        with_reducible refine go_shw gd (Nat.le_refl _) (Nat.le_refl _) (Nat.le_refl _) ?_
        walk_at "ev"
        with_reducible refine go_due hu6.sw22 i1 (by omega) hw px fun s7 hu7 => ?_
        walk_at "ev"
        with_reducible refine go_shw gd (Nat.le_refl _) (Nat.le_refl _) (Nat.le_refl _) ?_
        walk_at "ev"
        rw [hd] at hu7
        have hu7' : UrnL ((c, PST e n) :: (e, LTC (drpL (y :: l1) num)) :: (b, LMN d n) :: (d, LTC (drpL (y :: l1) num)) :: (p, .cell (.ol ((keysL (drpL (y :: l1) num)).map D.int))) :: []) (30000 - 2 * k + 1 + 1) s7 u := hu7.sw22
        have hu8 : UrnL ((p, .cell (.ol ((keysL (drpL (y :: l1) num)).map D.int))) :: (c, PST e n) :: (e, LTC (drpL (y :: l1) num)) :: (b, LMN d n) :: (d, LTC (drpL (y :: l1) num)) :: []) (30000 - 2 * k + 1 + 1) s7 u := hu7'.rot5
        exact ⟨_, _, _, _, drpL (y :: l1) num, rfl, by omega, by omega, i1.drp, hu8.le (by omega)⟩
  · rintro j env st hj ⟨a3, a4, a5, a6, a7, ls, n, rfl, hn, hi, hu⟩
    have hj3 : j < 260 := by omega
    have hll := hi.len
    clear hu6
    walk_at "ev"
    refine go_letter hu (by omega) fun x st2 gx1 hu2 => ?_
    clear hu
    have hk : ((keysL ls).map D.int).length = ls.length := by rw [List.length_map]; exact len_keysL
    walk_at "ev"
    focus
      · rename_i p s1 hu3 hc1 rr s2 rr0 rr1 hu4 _ hc2
        have hu5 := hu4.sub (List.sublist_cons_self _ _)
        clear hu2 hu3 hu4
        have hd5 := hu5.any (i := 3) rfl
        have hpos : 0 < ls.length := by
          cases ls with
          | nil => cases hc1
          | cons _ _ => exact Nat.succ_pos _
        refine go_keysL (n := d) (kvs := LT ls) ?_
        walk_at "ev"
        refine ⟨rfl, hd5, by rw [len_LT]; omega, ?_⟩
        rw [keys_LTd]
        walk_at "ev"
        with_reducible refine go_sortM ?_
        rw [srt_up hi]
        walk_at "ev"
        intro w hw
        clear hd5
        walk_at "ev"
        intro y hy
        obtain ⟨i, hmi, rfl⟩ := List.mem_map.mp hy
        have hlo := hi.lo i hmi
        rename_i hu6 _
        clear hu5
        have hu5 := hu6
        have gs : w = Str.ofString "send" → Gd (10 ^ 12) 1 300 (.int i) := fun _ => (gd_int (by omega)).le (Nat.le_refl _) (by decide)
        have gx : Gd (10 ^ 12) 20 1000 (.int i) := (gd_int (by omega)).le (Nat.le_refl _) (by decide)
        walk_at "ev"
        have px := gx.1
        have gd := (due_gd hi (by omega) hw (gx.le (by decide) (by decide))).le (n' := 64) (w' := 1000000) (by decide) (by decide)
        obtain ⟨hi2, z1, z2⟩ := due_inv hi hw gs
        with_reducible refine go_does hu5 hi (by omega) hw px fun s6 hu6 => ?_
        walk_at "ev"
        with_reducible refine go_shw gd (Nat.le_refl _) (Nat.le_refl _) (Nat.le_refl _) ?_
        walk_at "ev"
        with_reducible refine go_due hu6.sw22 hi (by omega) hw px fun s7 hu7 => ?_
        walk_at "ev"
        with_reducible refine go_shw gd (Nat.le_refl _) (Nat.le_refl _) (Nat.le_refl _) ?_
        walk_at "ev"
        exact ⟨_, _, _, _, _, _, _, rfl, by omega, hi2, hu7.sw22.le (by omega)⟩
    focus
      · rename_i p s1 hu3 hc1 rr s2 rr0 rr1 hu4 _ hc2
        have hu5 := hu4.sub (List.sublist_cons_self _ _)
        clear hu2 hu3 hu4
        have hw : Str.ofString "send" ∈ W4p := List.mem_cons_self
        have gs : Str.ofString "send" = Str.ofString "send" → Gd (10 ^ 12) 1 300 x := fun _ => gx1
        have gx := gx1.le (n' := 20) (w' := 1000) (by decide) (by decide)
        have px := gx.1
        have gd := (due_gd hi (by omega) hw (gx.le (by decide) (by decide))).le (n' := 64) (w' := 1000000) (by decide) (by decide)
        obtain ⟨hi2, z1, z2⟩ := due_inv hi hw gs
        with_reducible refine go_does hu5 hi (by omega) hw px fun s6 hu6 => ?_
        walk_at "ev"
        with_reducible refine go_shw gd (Nat.le_refl _) (Nat.le_refl _) (Nat.le_refl _) ?_
        walk_at "ev"
        with_reducible refine go_due hu6.sw22 hi (by omega) hw px fun s7 hu7 => ?_
        walk_at "ev"
        with_reducible refine go_shw gd (Nat.le_refl _) (Nat.le_refl _) (Nat.le_refl _) ?_
        walk_at "ev"
        exact ⟨_, _, _, _, _, _, _, rfl, by omega, hi2, hu7.sw22.le (by omega)⟩
    focus
      · rename_i p s1 hu3 hc1
        have hu5 := hu3.sub (List.sublist_cons_self _ _)
        clear hu2 hu3
        have hw : Str.ofString "send" ∈ W4p := List.mem_cons_self
        have gs : Str.ofString "send" = Str.ofString "send" → Gd (10 ^ 12) 1 300 x := fun _ => gx1
        have gx := gx1.le (n' := 20) (w' := 1000) (by decide) (by decide)
        have px := gx.1
        have gd := (due_gd hi (by omega) hw (gx.le (by decide) (by decide))).le (n' := 64) (w' := 1000000) (by decide) (by decide)
        obtain ⟨hi2, z1, z2⟩ := due_inv hi hw gs
        with_reducible refine go_does hu5 hi (by omega) hw px fun s6 hu6 => ?_
        walk_at "ev"
        with_reducible refine go_shw gd (Nat.le_refl _) (Nat.le_refl _) (Nat.le_refl _) ?_
        walk_at "ev"
        with_reducible refine go_due hu6.sw22 hi (by omega) hw px fun s7 hu7 => ?_
        walk_at "ev"
        with_reducible refine go_shw gd (Nat.le_refl _) (Nat.le_refl _) (Nat.le_refl _) ?_
        walk_at "ev"
        exact ⟨_, _, _, _, _, _, _, rfl, by omega, hi2, hu7.sw22.le (by omega)⟩
end
theorem law_holds {ns : List Int} (hl : ns.length ≤ 63) : (F_law [.scr ns] []).holds noE fun d _ => d = .bl true := by
  unfold F_law
  refine go_fn rfl ?_
  unfold B_law
  walk_at "ev"
  refine go_rng1 (by split <;> split <;> omega) ?_
  refine rng_loop (fun m env st => ∃ a1, env = [.vl (.scr ns), a1]) ⟨_, rfl⟩ ?_ ?_
  · rintro env st ⟨a1, rfl⟩
    walk_at "ev"
    rfl
  · rintro m env st hm ⟨a1, rfl⟩
    have hm5 : m < 5 := by revert hm; split <;> split <;> omega
    clear hm
    rw [Int.zero_add]
    walk_at "ev"
    refine urn (by omega) fun st1 u huz => ?_
    walk_at "ev"
    refine go_right huz fun st2 => ?_
    walk_at "ev"
    exact ⟨_, rfl⟩
theorem law_true : ∀ ns : List Int, ns.length ≤ 63 → ∃ st, F_law [.scr ns] [] = .ok (.bl true) st := fun ns h => by
  obtain ⟨d, st, e, rfl⟩ := Res.holds_ex (law_holds h)
  exact ⟨st, e⟩
end
end LAW
set_option Elab.async false
set_option linter.all false
set_option autoImplicit false
set_option maxRecDepth 100000
set_option maxHeartbeats 0
namespace LEND
open PySem PySem.Spec PyProof.Rows L2 EV
theorem tops {w : World} {K : PySem.W.Frag} {h : Heap} {mg : Str → Option Value} (c : SaysH fb fn fd ts w K) (X : K.In h) (G : h.Ns mainGlobals mg) : LAW.Tops K w mg := by
  have hall := c.all.1
  unfold fb at hall
  obtain ⟨g0, hall⟩ := He.ba hall
  obtain ⟨g1, hall⟩ := He.ba hall
  obtain ⟨g2, hall⟩ := He.ba hall
  obtain ⟨g3, hall⟩ := He.ba hall
  obtain ⟨g4, hall⟩ := He.ba hall
  obtain ⟨g5, hall⟩ := He.ba hall
  have g6 := hall
  have e0 : FF0 K := of_decide_eq_true g0
  unfold FF0 at e0
  obtain ⟨q_aC_Post, q_pg_Post, q_hd_Post, q_po_Post, q_sa_Post, q_mk_Post, q_kc_Post, q_aC_NoDeed, q_xb_NoDeed, q_aC_NoLetter, q_xb_NoLetter, q_aC_NoMotion, q_xb_NoMotion, q_aC_NoOrder, q_xb_NoOrder, q_aC_NoRow, q_xb_NoRow, q_aC_NoSky, q_xb_NoSky, q_aC_NoTurn⟩ := e0
  have e1 : FF1 K := of_decide_eq_true g1
  unfold FF1 at e1
  obtain ⟨q_xb_NoTurn, q_aC_NoWords, q_xb_NoWords, q_aC_NotAgreed, q_xb_NotAgreed, q_ix_NoLetter, q_yk_NoDeed, q_yk_NoLetter, q_yk_NoMotion, q_yk_NoOrder, q_yk_NoRow, q_yk_NoSky, q_yk_NoTurn, q_yk_NoWords, q_yk_NotAgreed, q_xi_NoLetter, q_xo_NoLetter, q_xs_NoLetter, q_xy_NoLetter, q_xk_NoLetter⟩ := e1
  have e2 : FF2 K := of_decide_eq_true g2
  unfold FF2 at e2
  obtain ⟨q_xn_NoLetter_number, q_ax_NoLetter, q_tx_NoLetter, q_kx_NoLetter, q_z0, q_z1, q_z2, q_z3, q_z4, q_z5, q_z6, q_z7, q_z8, q_z9, q_z10, q_z11, q_z12, q_z13, q_z14, q_z15⟩ := e2
  have e3 : FF3 K := of_decide_eq_true g3
  unfold FF3 at e3
  obtain ⟨q_z16, q_z17, q_z18, q_z19, q_nf_Post___bool__, q_nf_Post_by_number, q_nf_Post_coming, q_kt_NoLetter_ArithmeticError, q_kt_NoLetter_IndexError, q_kt_NoLetter_KeyError, q_kt_NoLetter_LookupError, q_kt_NoLetter_OverflowError, q_kt_NoLetter_RuntimeError, q_kt_NoLetter_TypeError, q_kt_NoLetter_ValueError, q_kt_NoLetter_NoDeed, q_kt_NoLetter_NoLetter, q_kt_NoLetter_NoMotion, q_kt_NoLetter_NoOrder, q_kt_NoLetter_NoRow⟩ := e3
  have e4 : FF4 K := of_decide_eq_true g4
  unfold FF4 at e4
  obtain ⟨q_kt_NoLetter_NoSky, q_kt_NoLetter_NoTurn, q_kt_NoLetter_NoWords, q_kt_NoLetter_NotAgreed, q_xm_NoLetter_NoLetter, q_a0, q_k0, q_a1, q_k1, q_a2, q_k2, q_a3, q_k3, q_a4, q_k4, q_a5, q_k5, q_a6, q_k6, q_a7⟩ := e4
  have e5 : FF5 K := of_decide_eq_true g5
  unfold FF5 at e5
  obtain ⟨q_i7, q_k7, q_a8, q_i8, q_k8, q_a9, q_i9, q_k9, q_a10, q_i10, q_k10, q_a11, q_i11, q_k11, q_a12, q_k12, q_a13, q_i13, q_k13, q_a14⟩ := e5
  have e6 : FF6 K := of_decide_eq_true g6
  unfold FF6 at e6
  obtain ⟨q_i14, q_k14, q_a15, q_k15, q_a16, q_i16, q_k16, q_a17, q_k17, q_a18, q_k18⟩ := e6
  obtain ⟨_, _, _, _, _, _, _, _, _, q_lx_NoLetter, q_cx_NoLetter⟩ := c.def_ 0 (d := d0) rfl
  obtain ⟨_, _, _, _, _, _, _, _, _, q_l0, q_c0⟩ := c.def_ 1 (d := d1) rfl
  obtain ⟨_, _, _, _, _, _, _, _, _, q_l1, q_c1⟩ := c.def_ 2 (d := d2) rfl
  obtain ⟨_, _, _, _, _, _, _, _, _, q_l2, q_c2⟩ := c.def_ 3 (d := d3) rfl
  obtain ⟨_, _, _, _, _, _, _, _, _, q_l3, q_c3⟩ := c.def_ 4 (d := d4) rfl
  obtain ⟨_, _, _, _, _, _, _, _, _, q_l4, q_c4⟩ := c.def_ 5 (d := d5) rfl
  obtain ⟨_, _, _, _, _, _, _, _, _, q_l5, q_c5⟩ := c.def_ 6 (d := d6) rfl
  obtain ⟨_, _, _, _, _, _, _, _, _, q_l6, q_c6⟩ := c.def_ 7 (d := d7) rfl
  obtain ⟨_, _, _, _, _, _, _, _, _, q_l7, q_c7⟩ := c.def_ 8 (d := d8) rfl
  obtain ⟨_, _, _, _, _, _, _, _, _, q_l8, q_c8⟩ := c.def_ 9 (d := d9) rfl
  obtain ⟨_, _, _, _, _, _, _, _, _, q_l9, q_c9⟩ := c.def_ 10 (d := d10) rfl
  obtain ⟨_, _, _, _, _, _, _, _, _, q_l10, q_c10⟩ := c.def_ 11 (d := d11) rfl
  obtain ⟨_, _, _, _, _, _, _, _, _, q_l11, q_c11⟩ := c.def_ 12 (d := d12) rfl
  obtain ⟨_, _, _, _, _, _, _, _, _, q_l12, q_c12⟩ := c.def_ 13 (d := d13) rfl
  obtain ⟨_, _, _, _, _, _, _, _, _, q_l13, q_c13⟩ := c.def_ 14 (d := d14) rfl
  obtain ⟨_, _, _, _, _, _, _, _, _, q_l14, q_c14⟩ := c.def_ 15 (d := d15) rfl
  obtain ⟨_, _, _, _, _, _, _, _, _, q_l15, q_c15⟩ := c.def_ 16 (d := d16) rfl
  obtain ⟨_, _, _, _, _, _, _, _, _, q_l16, q_c16⟩ := c.def_ 17 (d := d17) rfl
  obtain ⟨_, _, _, _, _, _, _, _, _, q_l17, q_c17⟩ := c.def_ 18 (d := d18) rfl
  obtain ⟨_, _, _, _, _, _, _, _, _, q_l18, q_c18⟩ := c.def_ 19 (d := d19) rfl
  exact LAW.tops_mk X G q_aC_Post q_pg_Post q_hd_Post q_po_Post q_sa_Post q_mk_Post q_kc_Post q_aC_NoDeed q_xb_NoDeed q_aC_NoLetter q_xb_NoLetter q_aC_NoMotion q_xb_NoMotion q_aC_NoOrder q_xb_NoOrder q_aC_NoRow q_xb_NoRow q_aC_NoSky q_xb_NoSky q_aC_NoTurn q_xb_NoTurn q_aC_NoWords q_xb_NoWords q_aC_NotAgreed q_xb_NotAgreed ⟨q_ix_NoLetter.1, q_ix_NoLetter.2.1, q_ix_NoLetter.2.2.1, q_ix_NoLetter.2.2.2.1, q_ix_NoLetter.2.2.2.2.1, q_ix_NoLetter.2.2.2.2.2.1, q_ix_NoLetter.2.2.2.2.2.2.1, q_ix_NoLetter.2.2.2.2.2.2.2⟩ q_yk_NoDeed q_yk_NoLetter q_yk_NoMotion q_yk_NoOrder q_yk_NoRow q_yk_NoSky q_yk_NoTurn q_yk_NoWords q_yk_NotAgreed q_xi_NoLetter q_xo_NoLetter q_xs_NoLetter q_xy_NoLetter q_xk_NoLetter q_xn_NoLetter_number q_ax_NoLetter q_tx_NoLetter q_lx_NoLetter q_cx_NoLetter q_kx_NoLetter q_z0 q_z1 q_z2 q_z3 q_z4 q_z5 q_z6 q_z7 q_z8 q_z9 q_z10 q_z11 q_z12 q_z13 q_z14 q_z15 q_z16 q_z17 q_z18 q_z19 q_nf_Post___bool__ q_nf_Post_by_number q_nf_Post_coming q_kt_NoLetter_ArithmeticError q_kt_NoLetter_IndexError q_kt_NoLetter_KeyError q_kt_NoLetter_LookupError q_kt_NoLetter_OverflowError q_kt_NoLetter_RuntimeError q_kt_NoLetter_TypeError q_kt_NoLetter_ValueError q_kt_NoLetter_NoDeed q_kt_NoLetter_NoLetter q_kt_NoLetter_NoMotion q_kt_NoLetter_NoOrder q_kt_NoLetter_NoRow q_kt_NoLetter_NoSky q_kt_NoLetter_NoTurn q_kt_NoLetter_NoWords q_kt_NoLetter_NotAgreed q_xm_NoLetter_NoLetter q_a0 q_l0 q_c0 q_k0 q_a1 q_l1 q_c1 q_k1 q_a2 q_l2 q_c2 q_k2 q_a3 q_l3 q_c3 q_k3 q_a4 q_l4 q_c4 q_k4 q_a5 q_l5 q_c5 q_k5 q_a6 q_l6 q_c6 q_k6 q_a7 q_i7 q_l7 q_c7 q_k7 q_a8 q_i8 q_l8 q_c8 q_k8 q_a9 q_i9 q_l9 q_c9 q_k9 q_a10 q_i10 q_l10 q_c10 q_k10 q_a11 q_i11 q_l11 q_c11 q_k11 q_a12 q_l12 q_c12 q_k12 q_a13 q_i13 q_l13 q_c13 q_k13 q_a14 q_i14 q_l14 q_c14 q_k14 q_a15 q_l15 q_c15 q_k15 q_a16 q_i16 q_l16 q_c16 q_k16 q_a17 q_l17 q_c17 q_k17 q_a18 q_l18 q_c18 q_k18
end LEND
open PySem PySem.W PySem.Calls PyProof.Rows
theorem PySem.Challenge.cw_climborsink_k82_many_letters_holds : PySem.Challenge.rw_climborsink_k82_many_letters.Holds := by
  refine LEND.fin ?_
  refine EV.walkGE (l := PySem.Challenge.rw_climborsink_k82_many_letters) (k := 7) (x := "_law_script") (F0 := LAW.F_law) (T := fun w K => EV.SaysH LEND.fb LEND.fn LEND.fd LEND.ts w K) rfl (by decide) (by kernel_rfl) ⟨⟨rfl, by decide, by decide⟩, rfl⟩ (fun w h Y => Y) ?F LAW.law_true
  intro w mg h K c KX G base _ _
  exact LAW.all_ok (LEND.tops c KX G)
