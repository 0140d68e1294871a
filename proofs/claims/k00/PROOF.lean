import PyProof.Rows.All
import HandS.Deep
import HandS.Defaults
import HandS.Flow
import HandS.ForExc
import HandS.ForMost
import HandS.Head0
import HandS.Head1
import HandS.Head2
import HandS.HeadEnd
import HandS.HeadHook1
import HandS.HeadHook2
import HandS.HeadNt
import HandS.IsInst
import HandS.More
import HandS.Replace
import HandS.Steps
import HandS.TupAny
import HandS.Wide
import KE.KExcInit
import KE.KExcIs
import KE.KExcSuper
import KE.KRevSl
import KE.KStateDown
import KE.KSuperObj
import KE.LtData
import OpenK.AllK
import PyProof.ReprLen
import Wide.All
import Wide.FinOn
import Lean
import KE.KeyNested
import PyProof.ZipIter
import PyProof.Draws
import HandS.Zip0
import PyProof.MeetsIn
import HandS.Base
import HandS.List
import HandS.Iter
import HandS.Call
import KE.KDictZip
import KE.KDictKeyed
import HandS.Zip
import PyProof.InstEq
import HandS.Small
import HandS.Property
import HandS.TupMul
import HandS.TupLe
import HandS.ExcInit
import HandS.Star
import HandS.Style
import HandS.FStr
import HandS.ClsMeth
import HandS.RaiseMore
import HandS.SortInts
import HandS.SetFor
import HandS.Strs
import HandS.TupSets
import HandS.HotCalls
import PySem.Challenge.RW_tallyhouse_k00_errors
set_option Elab.async false
set_option linter.all false
set_option maxRecDepth 100000
set_option maxHeartbeats 0
/-! the head's facts: what is looked at (kit imports alone, so that `run` may stand first) -/
namespace XI
open PySem PySem.W PySem.Calls PyProof.Rows PySem.HandSPX
abbrev exTl : List Value := [.type "Exception", .type "BaseException", .type "object"]
def iA (p : Str) (a b : Pos) : Arguments := { posonlyargs := [], args := [{ arg := "self", annotation := none, pos := a }, { arg := p, annotation := none, pos := b }], vararg := none, kwonlyargs := [], kw_defaults := [], kwarg := none, defaults := [] }
def iB (p : Str) (q : List Pos) : List Stmt := [
  .Expr (.Call (.Attribute (.Call (.Name "super" (q.getD 0 ⟨0, 0, 0, 0⟩)) [] [] (q.getD 1 ⟨0, 0, 0, 0⟩)) "__init__" (q.getD 2 ⟨0, 0, 0, 0⟩)) [.Name p (q.getD 3 ⟨0, 0, 0, 0⟩)] [] (q.getD 4 ⟨0, 0, 0, 0⟩)) (q.getD 5 ⟨0, 0, 0, 0⟩),
  .Assign [.Attribute (.Name "self" (q.getD 6 ⟨0, 0, 0, 0⟩)) p (q.getD 7 ⟨0, 0, 0, 0⟩)] (.Name p (q.getD 8 ⟨0, 0, 0, 0⟩)) (q.getD 9 ⟨0, 0, 0, 0⟩)]
def iS (p : Str) : Scope := { kind := .function, names := [(PySem.Str.ofString "self", .local), (p, .local), (PySem.Str.ofString "__class__", .free), (PySem.Str.ofString "super", .globalImplicit)], isGenerator := false, isCoroutine := false, more := [] }
end XI
namespace HX
open PySem PySem.Spec PyProof.Rows L2
/-- what is looked at: as He.asD, and the statics -/
def asX (g : Addr → Option Obj) : Nat → List Addr
  | 0 => [mainGlobals, cStatics]
  | n + 1 => He.growD g (asX g n)
/-- an exception class with its __init__: name, parameter, qualified name, places of the text -/
structure XcD where
  nm : Str
  p : Str
  qual : Str
  a : Pos
  b : Pos
  q : List Pos
abbrev FnX : Type := Option (Str × Str × Arguments × FuncBody × Scope × Addr × Value × Value × Addr)
def fnX (K : PySem.W.Frag) (d : XcD) : FnX := match K.lookup (He.ma K (He.ga K d.nm) "__init__") with
  | some ⟨_, _, .func fd, _⟩ => some (fd.name, fd.qualname, fd.params, fd.body, fd.scope, fd.globals, fd.defaults, fd.kwdefaults, fd.builtins)
  | _ => none
def XcD.val (d : XcD) : FnX := some (Str.ofString "__init__", d.qual, XI.iA d.p d.a d.b, .stmts (XI.iB d.p d.q), XI.iS d.p, mainGlobals, .none, .none, builtinsNs)
def eqO (a b : Option (Option Value)) : Bool := decide (a = b)
def eqB (a : Option Bool) (b : Bool) : Bool := decide (a = some b)
/-- the Bool part of XI.ExcTxt -/
def XcD.ok (P : Program) (K : PySem.W.Frag) (d : XcD) : Bool :=
  let C := He.ga K d.nm
  let fI := He.ma K C "__init__"
  eqO (PySem.W.nsIn K mainGlobals d.nm) (some (some (.ref C))) && eqO (PySem.W.nsIn K mainGlobals "super") (some none) &&
  (!(("self" : Str) == d.p) && !(("__class__" : Str) == d.p) && !(("super" : Str) == d.p) && !(d.p == ("__debug__" : Str))) &&
  PySem.W.excInitIn K C XI.exTl "Exception.__new__" && PySem.W.excOver K C XI.exTl &&
  eqO (PySem.W.findIn K (.ref C) "__setattr__") (some (some (.builtin "object.__setattr__"))) && eqO (PySem.W.findIn K (.ref C) "__getattribute__") (some (some (.builtin "BaseException.__getattribute__"))) &&
  eqO (PySem.W.findIn K (.ref C) "__getattr__") (some none) && eqO (PySem.W.findIn K (.ref C) d.p) (some none) && eqO (PySem.W.findIn K (.ref C) "__init__") (some (some (.ref fI))) &&
  decide (PySem.W.typeIn K (.ref fI) = some (.type "function")) && PySem.W.keepIn K (.ref C) && eqB (PySem.W.subIn K (.ref C) (.type "BaseException")) true && eqB (PySem.W.subIn K (.ref C) (.ref C)) true && eqB (PySem.W.subIn K (.ref C) (.type "Exception")) true &&
  decide (PySem.W.typeIn K (.ref C) = some (.type "type")) && PySem.W.hasDictIn K C && eqO (PySem.W.nsIn K cStatics "thirdparty.any") (some none) && eqO (PySem.W.ks_superIn K C C "__init__") (some (some (.builtin "Exception.__init__"))) &&
  !(P.main.scope.names.lookup ("super" : Str)).isSome &&
  (match K.lookup fI with
    | some ⟨_, _, .func fd, _⟩ => PySem.W.codeIn K fd.code d.qual && (match fd.closure with
      | [(n, cl)] => (n == ("__class__" : Str)) && (match K.lookup cl with
        | some ⟨_, _, .cell (some (.ref c)), _⟩ => c == C
        | _ => false)
      | _ => false) && (match fd.code with
      | .ref cc => (match K.lookup cc with
        | some ⟨_, _, .fields vs, _⟩ => (match (vs[2]? : Option Value) with
          | some (Value.str file _) => (P.main.file : Str) == file
          | _ => false)
        | _ => false)
      | _ => false)
    | _ => false)
abbrev AlX : Type := He.AlD × Bool × List FnX
abbrev Fx : Type := PySem.W.Frag → Bool
def obsK (P : Program) (fa : List He.Fa) (fn : List He.DefD) (fx : List Fx) (xs : List XcD) (K : PySem.W.Frag) : AlX := (He.obsD fa fn K, (fx.all fun f => f K) && xs.all fun d => d.ok P K, xs.map fun d => fnX K d)
def valX (fn : List He.DefD) (xs : List XcD) : AlX := (He.valD fn, true, xs.map XcD.val)
def SaysX (P : Program) (fa : List He.Fa) (fn : List He.DefD) (fx : List Fx) (xs : List XcD) (K : PySem.W.Frag) : Prop := obsK P fa fn fx xs K = valX fn xs
def xfldB (nm f : Str) : Fx := fun K => eqO (PySem.W.findIn K (.ref (He.ga K nm)) "__getattribute__") (some (some (.builtin "BaseException.__getattribute__"))) && eqO (PySem.W.findIn K (.ref (He.ga K nm)) "__getattr__") (some none) && eqB (PySem.W.subIn K (.ref (He.ga K nm)) (.type "BaseException")) true && PySem.W.hasDictIn K (He.ga K nm) && eqO (PySem.W.findIn K (.ref (He.ga K nm)) f) (some none)
def clskB (nm : Str) : Fx := fun K => eqO (PySem.W.findIn K (.ref (He.ga K nm)) "__class__") (some (some (.builtin "object.__class__"))) && eqO (PySem.W.specialIn K (.builtin "object.__class__") "__get__") (some (some (.builtin "getset_descriptor.__get__"))) && eqB (PySem.W.takesIn K (.builtin "object.__class__")) true && eqB (PySem.W.mroIn K (He.ga K nm) (.type "object")) true
def xisB (nm : Str) : Fx := fun K => clskB nm K && ((PySem.W.clsIn K (He.ga K nm)).isSome && eqO (PySem.W.findIn K (.ref (He.ga K nm)) "__getattribute__") (some (some (.builtin "BaseException.__getattribute__"))) && eqO (PySem.W.findIn K (.ref (He.ga K nm)) "__getattr__") (some none) && eqB (PySem.W.subIn K (.ref (He.ga K nm)) (.type "BaseException")) true)
def kitB2 (nm nm2 : Str) (b : Bool) : Fx := fun K => eqB (PySem.W.kitOne K (.ref (He.ga K nm)) (.ref (He.ga K nm2))) b
def sysB : Fx := fun K => (K.lookup sysModules).isSome
end HX
namespace HY
open PySem PySem.Spec PyProof.Rows L2 HX
abbrev AlY : Type := HX.AlX × Bool × List He.FnW
def obsK (P : Program) (fa : List He.Fa) (fn : List He.DefD) (fx : List Fx) (xs : List XcD) (fw : List He5.DefA) (K : PySem.W.Frag) : AlY := (HX.obsK P fa fn fx xs K, fw.all fun d => d.ok K, fw.map fun d => He5.fnA K (d.at_ K))
def valY (fn : List He.DefD) (xs : List XcD) (fw : List He5.DefA) : AlY := (HX.valX fn xs, true, fw.map He5.DefA.val)
def SaysY (P : Program) (fa : List He.Fa) (fn : List He.DefD) (fx : List Fx) (xs : List XcD) (fw : List He5.DefA) (K : PySem.W.Frag) : Prop := obsK P fa fn fx xs fw K = valY fn xs fw
def excoB (nm : Str) : Fx := fun K => eqO (PySem.W.nsIn K mainGlobals nm) (some (some (.ref (He.ga K nm)))) && PySem.W.excIn K (He.ga K nm) [.type "Exception", .type "BaseException", .type "object"] "Exception.__new__" && PySem.W.keepIn K (.ref (He.ga K nm)) && eqB (PySem.W.subIn K (.ref (He.ga K nm)) (.type "BaseException")) true && decide (PySem.W.typeIn K (.ref (He.ga K nm)) = some (.type "type"))
end HY
namespace G
open PySem PySem.Spec PyProof.Rows L2
end G
/-! own exceptions of several parameters: their __init__ as written, and what is looked at (kit imports alone) -/
namespace XN
open PySem PySem.W PySem.Calls PyProof.Rows PySem.HandSPX
/-- a parameter, with the places at which it stands -/
structure PX where
  p : Str
  a : Pos
  c : Pos
  s0 : Pos
  s1 : Pos
  s2 : Pos
  s3 : Pos
def nA (a : Pos) (ps : List PX) : Arguments := { posonlyargs := [], args := { arg := "self", annotation := none, pos := a } :: ps.map fun x => { arg := x.p, annotation := none, pos := x.a }, vararg := none, kwonlyargs := [], kw_defaults := [], kwarg := none, defaults := [] }
def sup (q : List Pos) (ps : List PX) : Expr := .Call (.Attribute (.Call (.Name "super" (q.getD 0 ⟨0, 0, 0, 0⟩)) [] [] (q.getD 1 ⟨0, 0, 0, 0⟩)) "__init__" (q.getD 2 ⟨0, 0, 0, 0⟩)) (ps.map fun x => .Name x.p x.c) [] (q.getD 3 ⟨0, 0, 0, 0⟩)
def sto (x : PX) : Stmt := .Assign [.Attribute (.Name "self" x.s0) x.p x.s1] (.Name x.p x.s2) x.s3
def nB (q : List Pos) (ps : List PX) : List Stmt := .Expr (sup q ps) (q.getD 4 ⟨0, 0, 0, 0⟩) :: ps.map sto
def nS (ps : List PX) : Scope := { kind := .function, names := (PySem.Str.ofString "self", .local) :: ((ps.map fun x => (x.p, .local)) ++ [(PySem.Str.ofString "__class__", .free), (PySem.Str.ofString "super", .globalImplicit)]), isGenerator := false, isCoroutine := false, more := [] }
/-- such a class: name, qualified name of its __init__, places, parameters -/
structure XnD where
  nm : Str
  qual : Str
  a : Pos
  q : List Pos
  ps : List PX
end XN
namespace HZ
open PySem PySem.Spec PyProof.Rows L2 HX XN
def fnN (K : PySem.W.Frag) (nm : Str) : FnX := match K.lookup (He.ma K (He.ga K nm) "__init__") with
  | some ⟨_, _, .func fd, _⟩ => some (fd.name, fd.qualname, fd.params, fd.body, fd.scope, fd.globals, fd.defaults, fd.kwdefaults, fd.builtins)
  | _ => none
def XnD.val (d : XnD) : FnX := some (Str.ofString "__init__", d.qual, nA d.a d.ps, .stmts (nB d.q d.ps), nS d.ps, mainGlobals, .none, .none, builtinsNs)
def nmB (ps : List PX) : Bool := ps.all fun x => !(("self" : Str) == x.p) && !(("__class__" : Str) == x.p) && !(("super" : Str) == x.p) && !(x.p == ("__debug__" : Str))
/-- the Bool part of XN.ExcN -/
def XnD.ok (P : Program) (K : PySem.W.Frag) (d : XnD) : Bool :=
  let C := He.ga K d.nm
  let fI := He.ma K C "__init__"
  (eqO (PySem.W.nsIn K mainGlobals d.nm) (some (some (.ref C))) && eqO (PySem.W.nsIn K mainGlobals "super") (some none)) &&
  (nmB d.ps && decide (d.ps.map (·.p)).Nodup) &&
  (PySem.W.excInitIn K C XI.exTl "Exception.__new__" && PySem.W.excOver K C XI.exTl) &&
  (eqO (PySem.W.findIn K (.ref C) "__setattr__") (some (some (.builtin "object.__setattr__"))) && d.ps.all fun x => eqO (PySem.W.findIn K (.ref C) x.p) (some none)) &&
  (eqO (PySem.W.findIn K (.ref C) "__init__") (some (some (.ref fI))) && decide (PySem.W.typeIn K (.ref fI) = some (.type "function"))) &&
  (PySem.W.keepIn K (.ref C) && eqB (PySem.W.subIn K (.ref C) (.type "BaseException")) true && eqB (PySem.W.subIn K (.ref C) (.ref C)) true && eqB (PySem.W.subIn K (.ref C) (.type "Exception")) true) &&
  (decide (PySem.W.typeIn K (.ref C) = some (.type "type")) && PySem.W.hasDictIn K C && eqO (PySem.W.nsIn K cStatics "thirdparty.any") (some none) && eqO (PySem.W.ks_superIn K C C "__init__") (some (some (.builtin "Exception.__init__")))) &&
  !(P.main.scope.names.lookup ("super" : Str)).isSome &&
  (match K.lookup fI with
    | some ⟨_, _, .func fd, _⟩ => PySem.W.codeIn K fd.code d.qual && (match fd.closure with
      | [(n, cl)] => (n == ("__class__" : Str)) && (match K.lookup cl with
        | some ⟨_, _, .cell (some (.ref c)), _⟩ => c == C
        | _ => false)
      | _ => false) && (match fd.code with
      | .ref cc => (match K.lookup cc with
        | some ⟨_, _, .fields vs, _⟩ => (match (vs[2]? : Option Value) with
          | some (Value.str file _) => (P.main.file : Str) == file
          | _ => false)
        | _ => false)
      | _ => false)
    | _ => false)
abbrev AlZ : Type := HY.AlY × Bool × List FnX
def obsK (P : Program) (fa : List He.Fa) (fn : List He.DefD) (fx : List Fx) (xs : List XcD) (fw : List He5.DefA) (xn : List XnD) (K : PySem.W.Frag) : AlZ := (HY.obsK P fa fn fx xs fw K, xn.all fun d => XnD.ok P K d, xn.map fun d => fnN K d.nm)
def valZ (fn : List He.DefD) (xs : List XcD) (fw : List He5.DefA) (xn : List XnD) : AlZ := (HY.valY fn xs fw, true, xn.map XnD.val)
def SaysZ (P : Program) (fa : List He.Fa) (fn : List He.DefD) (fx : List Fx) (xs : List XcD) (fw : List He5.DefA) (xn : List XnD) (K : PySem.W.Frag) : Prop := obsK P fa fn fx xs fw xn K = valZ fn xs fw xn
def obsZG (P : Program) (n : Nat) (fa : List He.Fa) (fn : List He.DefD) (fx : List Fx) (xs : List XcD) (fw : List He5.DefA) (xn : List XnD) (g : Addr → Option Obj) : AlZ := obsK P fa fn fx xs fw xn (He.frG g (asX g n ++ [sysModules]))
def hookZ (P : Program) (n : Nat) (fa : List He.Fa) (fn : List He.DefD) (fx : List Fx) (xs : List XcD) (fw : List He5.DefA) (xn : List XnD) : PySem.W.Hook where
  α := AlZ
  obs := fun s => obsZG P n fa fn fx xs fw xn s.heap.get?
  val := fun _ => valZ fn xs fw xn
  says := fun _ h => ∃ K : PySem.W.Frag, K.In h ∧ SaysZ P fa fn fx xs fw xn K
  of := fun _ _ e => ⟨_, He.frG_in, e⟩
  keeps := fun _ _ _ ⟨K, hK, c⟩ k => ⟨K, PySem.W.Frag.In.keeps hK k, c⟩
theorem obsZG_eq {P : Program} {n : Nat} {fa : List He.Fa} {fn : List He.DefD} {fx : List Fx} {xs : List XcD} {fw : List He5.DefA} {xn : List XnD} {g : Addr → Option Obj} {s : Shared} (h : ∀ a, g a = s.heap.get? a) : obsZG P n fa fn fx xs fw xn g = (hookZ P n fa fn fx xs fw xn).obs s := by
  have e : g = s.heap.get? := funext h
  rw [e] <;> rfl
/-- a class beside a built-in one -/
def kitX (nm : Str) (T : String) (b : Bool) : Fx := fun K => eqB (PySem.W.kitOne K (.ref (He.ga K nm)) (.type T)) b
/-- all exceptions beside one class -/
def kindsB (cs : List (Str × Bool)) (nm : Str) : Fx := fun K => cs.all fun a => xisB a.1 K && kitB2 a.1 nm a.2 K && eqO (PySem.W.nsIn K mainGlobals a.1) (some (some (.ref (He.ga K a.1))))
def kindsT (cs : List (Str × Bool)) (T : String) : Fx := fun K => cs.all fun a => xisB a.1 K && kitX a.1 T a.2 K && eqO (PySem.W.nsIn K mainGlobals a.1) (some (some (.ref (He.ga K a.1))))
end HZ
namespace K00
open PySem PySem.Spec PyProof.Rows L2 G
def top (i : Nat) : Stmt := PySem.Challenge.pw_tallyhouse_k00_errors.main.body.getD i (.Pass ⟨0, 0, 0, 0⟩)
def xks : List Str := (["BadTally", "BadText", "BadTicket", "OtherDigits", "OtherTally", "BadRewriter", "OtherRoll", "DoesDouble", "Unbounded"] : List Str) ++ (["BadTold", "CannotBe", "BadDigit", "BadName", "NameTaken", "NoName", "BadPromise", "Unkept", "NoPromise"] : List Str) ++ (["Needed", "NothingToUndo", "NothingToRedo", "BadDeed", "NoStretch", "SoldBefore", "NotSold", "InvalidCommand"] : List Str)
def xt_BadTally : List (Str × Bool) := xks.map fun a => (a, a == "BadTally")
def xt_BadText : List (Str × Bool) := xks.map fun a => (a, a == "BadText")
def xt_BadTicket : List (Str × Bool) := xks.map fun a => (a, a == "BadTicket")
def xt_OtherDigits : List (Str × Bool) := xks.map fun a => (a, a == "OtherDigits")
def xt_OtherTally : List (Str × Bool) := xks.map fun a => (a, a == "OtherTally")
def xt_BadRewriter : List (Str × Bool) := xks.map fun a => (a, a == "BadRewriter")
def xt_OtherRoll : List (Str × Bool) := xks.map fun a => (a, a == "OtherRoll")
def xt_DoesDouble : List (Str × Bool) := xks.map fun a => (a, a == "DoesDouble")
def xt_Unbounded : List (Str × Bool) := xks.map fun a => (a, a == "Unbounded")
def xt_BadTold : List (Str × Bool) := xks.map fun a => (a, a == "BadTold")
def xt_CannotBe : List (Str × Bool) := xks.map fun a => (a, a == "CannotBe")
def xt_BadDigit : List (Str × Bool) := xks.map fun a => (a, a == "BadDigit")
def xt_BadName : List (Str × Bool) := xks.map fun a => (a, a == "BadName")
def xt_NameTaken : List (Str × Bool) := xks.map fun a => (a, a == "NameTaken")
def xt_NoName : List (Str × Bool) := xks.map fun a => (a, a == "NoName")
def xt_BadPromise : List (Str × Bool) := xks.map fun a => (a, a == "BadPromise")
def xt_Unkept : List (Str × Bool) := xks.map fun a => (a, a == "Unkept")
def xt_NoPromise : List (Str × Bool) := xks.map fun a => (a, a == "NoPromise")
def xt_Needed : List (Str × Bool) := xks.map fun a => (a, a == "Needed")
def xt_NothingToUndo : List (Str × Bool) := xks.map fun a => (a, a == "NothingToUndo")
def xt_NothingToRedo : List (Str × Bool) := xks.map fun a => (a, a == "NothingToRedo")
def xt_BadDeed : List (Str × Bool) := xks.map fun a => (a, a == "BadDeed")
def xt_NoStretch : List (Str × Bool) := xks.map fun a => (a, a == "NoStretch")
def xt_SoldBefore : List (Str × Bool) := xks.map fun a => (a, a == "SoldBefore")
def xt_NotSold : List (Str × Bool) := xks.map fun a => (a, a == "NotSold")
def xt_InvalidCommand : List (Str × Bool) := xks.map fun a => (a, a == "InvalidCommand")
def xt_TallyError : List (Str × Bool) := xks.map fun a => (a, true)
def xp_BadText : List XN.PX := [⟨"line", ⟨11, 23, 11, 27⟩, ⟨12, 25, 12, 29⟩, ⟨13, 8, 13, 12⟩, ⟨13, 8, 13, 17⟩, ⟨13, 20, 13, 24⟩, ⟨13, 8, 13, 24⟩⟩]
def xd_BadText : XN.XnD := ⟨"BadText", "BadText.__init__", ⟨11, 17, 11, 21⟩, [⟨12, 8, 12, 13⟩, ⟨12, 8, 12, 15⟩, ⟨12, 8, 12, 24⟩, ⟨12, 8, 12, 30⟩, ⟨12, 8, 12, 30⟩], xp_BadText⟩
def xp_BadTally : List XN.PX := [⟨"part", ⟨6, 23, 6, 27⟩, ⟨7, 25, 7, 29⟩, ⟨8, 8, 8, 12⟩, ⟨8, 8, 8, 17⟩, ⟨8, 20, 8, 24⟩, ⟨8, 8, 8, 24⟩⟩]
def xd_BadTally : XN.XnD := ⟨"BadTally", "BadTally.__init__", ⟨6, 17, 6, 21⟩, [⟨7, 8, 7, 13⟩, ⟨7, 8, 7, 15⟩, ⟨7, 8, 7, 24⟩, ⟨7, 8, 7, 30⟩, ⟨7, 8, 7, 30⟩], xp_BadTally⟩
def xp_BadRewriter : List XN.PX := [⟨"part", ⟨25, 23, 25, 27⟩, ⟨26, 25, 26, 29⟩, ⟨27, 8, 27, 12⟩, ⟨27, 8, 27, 17⟩, ⟨27, 20, 27, 24⟩, ⟨27, 8, 27, 24⟩⟩]
def xd_BadRewriter : XN.XnD := ⟨"BadRewriter", "BadRewriter.__init__", ⟨25, 17, 25, 21⟩, [⟨26, 8, 26, 13⟩, ⟨26, 8, 26, 15⟩, ⟨26, 8, 26, 24⟩, ⟨26, 8, 26, 30⟩, ⟨26, 8, 26, 30⟩], xp_BadRewriter⟩
def xp_BadTicket : List XN.PX := [⟨"ticket", ⟨16, 23, 16, 29⟩, ⟨17, 25, 17, 31⟩, ⟨18, 8, 18, 12⟩, ⟨18, 8, 18, 19⟩, ⟨18, 22, 18, 28⟩, ⟨18, 8, 18, 28⟩⟩]
def xd_BadTicket : XN.XnD := ⟨"BadTicket", "BadTicket.__init__", ⟨16, 17, 16, 21⟩, [⟨17, 8, 17, 13⟩, ⟨17, 8, 17, 15⟩, ⟨17, 8, 17, 24⟩, ⟨17, 8, 17, 32⟩, ⟨17, 8, 17, 32⟩], xp_BadTicket⟩
def xp_Unbounded : List XN.PX := [⟨"paper", ⟨37, 23, 37, 28⟩, ⟨38, 25, 38, 30⟩, ⟨39, 8, 39, 12⟩, ⟨39, 8, 39, 18⟩, ⟨39, 21, 39, 26⟩, ⟨39, 8, 39, 26⟩⟩]
def xd_Unbounded : XN.XnD := ⟨"Unbounded", "Unbounded.__init__", ⟨37, 17, 37, 21⟩, [⟨38, 8, 38, 13⟩, ⟨38, 8, 38, 15⟩, ⟨38, 8, 38, 24⟩, ⟨38, 8, 38, 31⟩, ⟨38, 8, 38, 31⟩], xp_Unbounded⟩
def xp_DoesDouble : List XN.PX := [⟨"paper", ⟨32, 23, 32, 28⟩, ⟨33, 25, 33, 30⟩, ⟨34, 8, 34, 12⟩, ⟨34, 8, 34, 18⟩, ⟨34, 21, 34, 26⟩, ⟨34, 8, 34, 26⟩⟩]
def xd_DoesDouble : XN.XnD := ⟨"DoesDouble", "DoesDouble.__init__", ⟨32, 17, 32, 21⟩, [⟨33, 8, 33, 13⟩, ⟨33, 8, 33, 15⟩, ⟨33, 8, 33, 24⟩, ⟨33, 8, 33, 31⟩, ⟨33, 8, 33, 31⟩], xp_DoesDouble⟩
def xp_CannotBe : List XN.PX := [⟨"paper", ⟨47, 23, 47, 28⟩, ⟨48, 25, 48, 30⟩, ⟨49, 8, 49, 12⟩, ⟨49, 8, 49, 18⟩, ⟨49, 21, 49, 26⟩, ⟨49, 8, 49, 26⟩⟩]
def xd_CannotBe : XN.XnD := ⟨"CannotBe", "CannotBe.__init__", ⟨47, 17, 47, 21⟩, [⟨48, 8, 48, 13⟩, ⟨48, 8, 48, 15⟩, ⟨48, 8, 48, 24⟩, ⟨48, 8, 48, 31⟩, ⟨48, 8, 48, 31⟩], xp_CannotBe⟩
def xp_BadTold : List XN.PX := [⟨"number", ⟨42, 23, 42, 29⟩, ⟨43, 25, 43, 31⟩, ⟨44, 8, 44, 12⟩, ⟨44, 8, 44, 19⟩, ⟨44, 22, 44, 28⟩, ⟨44, 8, 44, 28⟩⟩]
def xd_BadTold : XN.XnD := ⟨"BadTold", "BadTold.__init__", ⟨42, 17, 42, 21⟩, [⟨43, 8, 43, 13⟩, ⟨43, 8, 43, 15⟩, ⟨43, 8, 43, 24⟩, ⟨43, 8, 43, 32⟩, ⟨43, 8, 43, 32⟩], xp_BadTold⟩
def xp_BadName : List XN.PX := [⟨"name", ⟨57, 23, 57, 27⟩, ⟨58, 25, 58, 29⟩, ⟨59, 8, 59, 12⟩, ⟨59, 8, 59, 17⟩, ⟨59, 20, 59, 24⟩, ⟨59, 8, 59, 24⟩⟩]
def xd_BadName : XN.XnD := ⟨"BadName", "BadName.__init__", ⟨57, 17, 57, 21⟩, [⟨58, 8, 58, 13⟩, ⟨58, 8, 58, 15⟩, ⟨58, 8, 58, 24⟩, ⟨58, 8, 58, 30⟩, ⟨58, 8, 58, 30⟩], xp_BadName⟩
def xp_BadDigit : List XN.PX := [⟨"digit", ⟨52, 23, 52, 28⟩, ⟨53, 25, 53, 30⟩, ⟨54, 8, 54, 12⟩, ⟨54, 8, 54, 18⟩, ⟨54, 21, 54, 26⟩, ⟨54, 8, 54, 26⟩⟩]
def xd_BadDigit : XN.XnD := ⟨"BadDigit", "BadDigit.__init__", ⟨52, 17, 52, 21⟩, [⟨53, 8, 53, 13⟩, ⟨53, 8, 53, 15⟩, ⟨53, 8, 53, 24⟩, ⟨53, 8, 53, 31⟩, ⟨53, 8, 53, 31⟩], xp_BadDigit⟩
def xp_NoName : List XN.PX := [⟨"name", ⟨67, 23, 67, 27⟩, ⟨68, 25, 68, 29⟩, ⟨69, 8, 69, 12⟩, ⟨69, 8, 69, 17⟩, ⟨69, 20, 69, 24⟩, ⟨69, 8, 69, 24⟩⟩]
def xd_NoName : XN.XnD := ⟨"NoName", "NoName.__init__", ⟨67, 17, 67, 21⟩, [⟨68, 8, 68, 13⟩, ⟨68, 8, 68, 15⟩, ⟨68, 8, 68, 24⟩, ⟨68, 8, 68, 30⟩, ⟨68, 8, 68, 30⟩], xp_NoName⟩
def xp_NameTaken : List XN.PX := [⟨"name", ⟨62, 23, 62, 27⟩, ⟨63, 25, 63, 29⟩, ⟨64, 8, 64, 12⟩, ⟨64, 8, 64, 17⟩, ⟨64, 20, 64, 24⟩, ⟨64, 8, 64, 24⟩⟩]
def xd_NameTaken : XN.XnD := ⟨"NameTaken", "NameTaken.__init__", ⟨62, 17, 62, 21⟩, [⟨63, 8, 63, 13⟩, ⟨63, 8, 63, 15⟩, ⟨63, 8, 63, 24⟩, ⟨63, 8, 63, 30⟩, ⟨63, 8, 63, 30⟩], xp_NameTaken⟩
def xp_NoPromise : List XN.PX := [⟨"promise", ⟨84, 23, 84, 30⟩, ⟨85, 25, 85, 32⟩, ⟨86, 8, 86, 12⟩, ⟨86, 8, 86, 20⟩, ⟨86, 23, 86, 30⟩, ⟨86, 8, 86, 30⟩⟩]
def xd_NoPromise : XN.XnD := ⟨"NoPromise", "NoPromise.__init__", ⟨84, 17, 84, 21⟩, [⟨85, 8, 85, 13⟩, ⟨85, 8, 85, 15⟩, ⟨85, 8, 85, 24⟩, ⟨85, 8, 85, 33⟩, ⟨85, 8, 85, 33⟩], xp_NoPromise⟩
def xp_BadPromise : List XN.PX := [⟨"promise", ⟨72, 23, 72, 30⟩, ⟨73, 25, 73, 32⟩, ⟨74, 8, 74, 12⟩, ⟨74, 8, 74, 20⟩, ⟨74, 23, 74, 30⟩, ⟨74, 8, 74, 30⟩⟩]
def xd_BadPromise : XN.XnD := ⟨"BadPromise", "BadPromise.__init__", ⟨72, 17, 72, 21⟩, [⟨73, 8, 73, 13⟩, ⟨73, 8, 73, 15⟩, ⟨73, 8, 73, 24⟩, ⟨73, 8, 73, 33⟩, ⟨73, 8, 73, 33⟩], xp_BadPromise⟩
def xp_SoldBefore : List XN.PX := [⟨"ticket", ⟨110, 23, 110, 29⟩, ⟨111, 25, 111, 31⟩, ⟨112, 8, 112, 12⟩, ⟨112, 8, 112, 19⟩, ⟨112, 22, 112, 28⟩, ⟨112, 8, 112, 28⟩⟩]
def xd_SoldBefore : XN.XnD := ⟨"SoldBefore", "SoldBefore.__init__", ⟨110, 17, 110, 21⟩, [⟨111, 8, 111, 13⟩, ⟨111, 8, 111, 15⟩, ⟨111, 8, 111, 24⟩, ⟨111, 8, 111, 32⟩, ⟨111, 8, 111, 32⟩], xp_SoldBefore⟩
def xp_BadDeed : List XN.PX := [⟨"number", ⟨99, 23, 99, 29⟩, ⟨100, 25, 100, 31⟩, ⟨101, 8, 101, 12⟩, ⟨101, 8, 101, 19⟩, ⟨101, 22, 101, 28⟩, ⟨101, 8, 101, 28⟩⟩]
def xd_BadDeed : XN.XnD := ⟨"BadDeed", "BadDeed.__init__", ⟨99, 17, 99, 21⟩, [⟨100, 8, 100, 13⟩, ⟨100, 8, 100, 15⟩, ⟨100, 8, 100, 24⟩, ⟨100, 8, 100, 32⟩, ⟨100, 8, 100, 32⟩], xp_BadDeed⟩
def xp_NotSold : List XN.PX := [⟨"ticket", ⟨115, 23, 115, 29⟩, ⟨116, 25, 116, 31⟩, ⟨117, 8, 117, 12⟩, ⟨117, 8, 117, 19⟩, ⟨117, 22, 117, 28⟩, ⟨117, 8, 117, 28⟩⟩]
def xd_NotSold : XN.XnD := ⟨"NotSold", "NotSold.__init__", ⟨115, 17, 115, 21⟩, [⟨116, 8, 116, 13⟩, ⟨116, 8, 116, 15⟩, ⟨116, 8, 116, 24⟩, ⟨116, 8, 116, 32⟩, ⟨116, 8, 116, 32⟩], xp_NotSold⟩
def xp_Unkept : List XN.PX := [⟨"name", ⟨77, 23, 77, 27⟩, ⟨78, 25, 78, 29⟩, ⟨79, 8, 79, 12⟩, ⟨79, 8, 79, 17⟩, ⟨79, 20, 79, 24⟩, ⟨79, 8, 79, 24⟩⟩, ⟨"promise", ⟨77, 29, 77, 36⟩, ⟨78, 31, 78, 38⟩, ⟨80, 8, 80, 12⟩, ⟨80, 8, 80, 20⟩, ⟨80, 23, 80, 30⟩, ⟨80, 8, 80, 30⟩⟩, ⟨"fault", ⟨77, 38, 77, 43⟩, ⟨78, 40, 78, 45⟩, ⟨81, 8, 81, 12⟩, ⟨81, 8, 81, 18⟩, ⟨81, 21, 81, 26⟩, ⟨81, 8, 81, 26⟩⟩]
def xd_Unkept : XN.XnD := ⟨"Unkept", "Unkept.__init__", ⟨77, 17, 77, 21⟩, [⟨78, 8, 78, 13⟩, ⟨78, 8, 78, 15⟩, ⟨78, 8, 78, 24⟩, ⟨78, 8, 78, 46⟩, ⟨78, 8, 78, 46⟩], xp_Unkept⟩
def xp_NoStretch : List XN.PX := [⟨"low", ⟨104, 23, 104, 26⟩, ⟨105, 25, 105, 28⟩, ⟨106, 8, 106, 12⟩, ⟨106, 8, 106, 16⟩, ⟨106, 19, 106, 22⟩, ⟨106, 8, 106, 22⟩⟩, ⟨"high", ⟨104, 28, 104, 32⟩, ⟨105, 30, 105, 34⟩, ⟨107, 8, 107, 12⟩, ⟨107, 8, 107, 17⟩, ⟨107, 20, 107, 24⟩, ⟨107, 8, 107, 24⟩⟩]
def xd_NoStretch : XN.XnD := ⟨"NoStretch", "NoStretch.__init__", ⟨104, 17, 104, 21⟩, [⟨105, 8, 105, 13⟩, ⟨105, 8, 105, 15⟩, ⟨105, 8, 105, 24⟩, ⟨105, 8, 105, 35⟩, ⟨105, 8, 105, 35⟩], xp_NoStretch⟩
def xp_Needed : List XN.PX := [⟨"name", ⟨89, 23, 89, 27⟩, ⟨90, 25, 90, 29⟩, ⟨91, 8, 91, 12⟩, ⟨91, 8, 91, 17⟩, ⟨91, 20, 91, 24⟩, ⟨91, 8, 91, 24⟩⟩, ⟨"other", ⟨89, 29, 89, 34⟩, ⟨90, 31, 90, 36⟩, ⟨92, 8, 92, 12⟩, ⟨92, 8, 92, 18⟩, ⟨92, 21, 92, 26⟩, ⟨92, 8, 92, 26⟩⟩]
def xd_Needed : XN.XnD := ⟨"Needed", "Needed.__init__", ⟨89, 17, 89, 21⟩, [⟨90, 8, 90, 13⟩, ⟨90, 8, 90, 15⟩, ⟨90, 8, 90, 24⟩, ⟨90, 8, 90, 37⟩, ⟨90, 8, 90, 37⟩], xp_Needed⟩
end K00
namespace K00
open PySem PySem.Spec PyProof.Rows L2 G PySem.W PySem.Calls
def dd (x : Str) (i : Nat) : He.DefD := ⟨(x, none), x, x, defArgs (top i), defBody (top i), defScope (top i), [], []⟩
def fn : List He.DefD := [dd "_law_deck" 29, dd "_law_bare" 36, dd "_law_draw" 30, dd "_law_pick" 31, dd "_law_value" 32, dd "_law_made" 33, dd "_law_borne" 34, dd "_law_kinds" 35, dd "_law_raised" 37, dd "_law_caught" 38, dd "_law_wide_right" 39, dd "law" 40]
def fwrap : List He5.DefA := []
def fa : List He.Fa := [.glo "law", .free "list", .free "int", .glo "_law_deck", .glo "_law_bare", .glo "_law_draw", .free "len", .glo "_law_pick", .free "str", .glo "_law_value", .glo "_law_made", .glo "BadRewriter", .glo "BadTally", .glo "BadText", .glo "NotSold", .glo "SoldBefore", .glo "BadTicket", .glo "CannotBe", .glo "Unbounded", .glo "DoesDouble", .glo "BadDeed", .glo "BadTold", .glo "BadDigit", .glo "Needed", .glo "Unkept", .glo "NoName", .glo "NameTaken", .glo "BadName", .glo "NoPromise", .glo "BadPromise", .glo "_law_borne", .glo "OtherDigits", .free "isinstance", .glo "OtherRoll", .glo "OtherTally", .glo "NothingToRedo", .glo "NothingToUndo", .glo "NoStretch", .glo "InvalidCommand", .glo "_law_kinds", .glo "_law_raised", .glo "TallyError", .exm "InvalidCommand" "TallyError" true, .exm "NoStretch" "TallyError" true, .exm "NothingToUndo" "TallyError" true, .exm "Unkept" "TallyError" true, .exm "CannotBe" "TallyError" true, .exm "DoesDouble" "TallyError" true, .exm "OtherDigits" "TallyError" true, .exm "BadTicket" "TallyError" true, .exm "BadText" "TallyError" true, .exm "BadTally" "TallyError" true, .glo "_law_caught", .free "repr", .glo "_law_wide_right", .free "range", .free "Exception", .free "set"]
def fx : List HX.Fx := [HY.excoB "InvalidCommand", HY.excoB "NothingToRedo", HY.excoB "NothingToUndo", HY.excoB "OtherRoll", HY.excoB "OtherTally", HY.excoB "OtherDigits", HX.xfldB "BadRewriter" "part", HX.xfldB "BadTally" "part", HX.xfldB "BadText" "line", HX.xfldB "NotSold" "ticket", HX.xfldB "SoldBefore" "ticket", HX.xfldB "BadTicket" "ticket", HX.xfldB "CannotBe" "paper", HX.xfldB "Unbounded" "paper", HX.xfldB "DoesDouble" "paper", HX.xfldB "BadDeed" "number", HX.xfldB "BadTold" "number", HX.xfldB "BadDigit" "digit", HX.xfldB "Needed" "name", HX.xfldB "Unkept" "name", HX.xfldB "NoName" "name", HX.xfldB "NameTaken" "name", HX.xfldB "BadName" "name", HX.xfldB "NoPromise" "promise", HX.xfldB "Unkept" "promise", HX.xfldB "BadPromise" "promise", HZ.kindsB xt_OtherDigits "OtherDigits", HZ.kindsB xt_BadTicket "BadTicket", HZ.kindsB xt_BadText "BadText", HZ.kindsB xt_BadTally "BadTally", HZ.kindsB xt_OtherRoll "OtherRoll", HZ.kindsB xt_BadRewriter "BadRewriter", HZ.kindsB xt_OtherTally "OtherTally", HZ.kindsB xt_BadTold "BadTold", HZ.kindsB xt_Unbounded "Unbounded", HZ.kindsB xt_DoesDouble "DoesDouble", HZ.kindsB xt_BadName "BadName", HZ.kindsB xt_BadDigit "BadDigit", HZ.kindsB xt_CannotBe "CannotBe", HZ.kindsB xt_BadPromise "BadPromise", HZ.kindsB xt_NoName "NoName", HZ.kindsB xt_NameTaken "NameTaken", HZ.kindsB xt_Needed "Needed", HZ.kindsB xt_NoPromise "NoPromise", HZ.kindsB xt_Unkept "Unkept", HZ.kindsB xt_BadDeed "BadDeed", HZ.kindsB xt_NothingToRedo "NothingToRedo", HZ.kindsB xt_NothingToUndo "NothingToUndo", HZ.kindsB xt_NotSold "NotSold", HZ.kindsB xt_SoldBefore "SoldBefore", HZ.kindsB xt_NoStretch "NoStretch", HZ.kindsB xt_InvalidCommand "InvalidCommand", HX.xfldB "Unkept" "fault", HX.sysB, HX.xfldB "Needed" "other", HX.xfldB "NoStretch" "low", HX.xfldB "NoStretch" "high", HZ.kindsB xt_TallyError "TallyError", HZ.kindsT xt_TallyError "Exception"]
def xs : List HX.XcD := []
def xn : List XN.XnD := [xd_BadText, xd_BadTally, xd_BadRewriter, xd_BadTicket, xd_Unbounded, xd_DoesDouble, xd_CannotBe, xd_BadTold, xd_BadName, xd_BadDigit, xd_NoName, xd_NameTaken, xd_NoPromise, xd_BadPromise, xd_SoldBefore, xd_BadDeed, xd_NotSold, xd_Unkept, xd_NoStretch, xd_Needed]
abbrev R : PySem.W.OpenRow := PySem.W.OpenLaw.row PySem.Challenge.rw_tallyhouse_k00_errors
abbrev hk : PySem.W.Hook := HZ.hookZ PySem.Challenge.rw_tallyhouse_k00_errors.prog 4 fa fn fx xs fwrap xn
def ob (s : PySem.W.SharedT) : HZ.AlZ := HZ.obsZG PySem.Challenge.rw_tallyhouse_k00_errors.prog 4 fa fn fx xs fwrap xn (HandSHeadRun.getT s)
theorem ob_eq (s : PySem.W.SharedT) : ob s = hk.obs s.abs := HZ.obsZG_eq (HandSHeadRun.getT_eq s)
def names : List PySem.Str := (["TallyError", "BadTally", "BadText", "BadTicket", "OtherDigits", "OtherTally", "BadRewriter", "OtherRoll", "DoesDouble", "Unbounded", "BadTold", "CannotBe"] : List PySem.Str) ++ (["BadDigit", "BadName", "NameTaken", "NoName", "BadPromise", "Unkept", "NoPromise", "Needed", "NothingToUndo", "NothingToRedo", "BadDeed", "NoStretch"] : List PySem.Str) ++ (["SoldBefore", "NotSold", "InvalidCommand", "_law_deck", "_law_draw", "_law_pick", "_law_value", "_law_made", "_law_borne", "_law_kinds", "_law_bare", "_law_raised"] : List PySem.Str) ++ (["_law_caught", "_law_wide_right"] : List PySem.Str)
def kf (s : PySem.W.SharedT) : PySem.W.Frag := He.frG (HandSHeadRun.getT s) (HX.asX (HandSHeadRun.getT s) 4 ++ [sysModules])
theorem run_seen (w : World) (os : OsState) : (HandSHeadRun.endF (HandSHeadRun.stepQ (HandSHeadRun.denQ HandSHeadRun.tabQ) R.prog w) 20000 R.prog w os).map (fun s => (HandSHeadRun.looksF R.prog (boot_heap w.params) s.abs, HandSHeadRun.seenQ (PySem.W.view R.prog [40]) names (importedModules R.prog.main.body) (fun s => xlAt (PySem.W.view R.prog [40]) [] s && recOk R.toRowW.records s) s.abs)) = some (true, openGood (PySem.W.view R.prog [40]) names) := by kernel_rfl
theorem run_fa (w : World) (os : OsState) : (HandSHeadRun.endF (HandSHeadRun.stepQ (HandSHeadRun.denQ HandSHeadRun.tabQ) R.prog w) 20000 R.prog w os).map (fun s => (fa.all fun f => f.ok (kf s), ((fx.all fun f => f (kf s)) && xs.all fun d => d.ok R.prog (kf s), xs.map fun d => HX.fnX (kf s) d, fwrap.all fun d => d.ok (kf s), fwrap.map fun d => He5.fnA (kf s) (d.at_ (kf s))))) = some (true, true, xs.map HX.XcD.val, true, fwrap.map He5.DefA.val) := by kernel_rfl
theorem run_fn (w : World) (os : OsState) : (HandSHeadRun.endF (HandSHeadRun.stepQ (HandSHeadRun.denQ HandSHeadRun.tabQ) R.prog w) 20000 R.prog w os).map (fun s => (fn.all fun d => d.ok (kf s), fn.map fun d => He.fnW (kf s) d.at_)) = some (true, (He.valD fn).2) := by kernel_rfl
theorem run_xn (w : World) (os : OsState) : (HandSHeadRun.endF (HandSHeadRun.stepQ (HandSHeadRun.denQ HandSHeadRun.tabQ) R.prog w) 20000 R.prog w os).map (fun s => (xn.all fun d => HZ.XnD.ok R.prog (kf s) d, xn.map fun d => HZ.fnN (kf s) d.nm)) = some (true, xn.map HZ.XnD.val) := by kernel_rfl
theorem run (w : World) : HandSHeadRun.RunEq R (PySem.W.view R.prog [40]) hk ob 20000 names w := by
  intro os
  have h1 := run_seen w os
  have h2 := run_fa w os
  have h3 := run_fn w os
  have h4 := run_xn w os
  revert h1 h2 h3 h4
  generalize (HandSHeadRun.endF (HandSHeadRun.stepQ (HandSHeadRun.denQ HandSHeadRun.tabQ) R.prog w) 20000 R.prog w os) = o
  intro h1 h2 h3 h4
  cases o with
  | none => cases h1
  | some s =>
    have e1 := Option.some.inj h1
    have e2 := Option.some.inj h2
    have e3 := Option.some.inj h3
    have e4 := Option.some.inj h4
    have q2 : (fa.all fun f => f.ok (kf s)) = true := congrArg (·.1) e2
    have q3 : (fn.all fun d => d.ok (kf s)) = true := congrArg (·.1) e3
    have q4 : (fn.map fun d => He.fnW (kf s) d.at_) = (He.valD fn).2 := congrArg (·.2) e3
    have q5 : ((fx.all fun f => f (kf s)) && xs.all fun d => d.ok R.prog (kf s), xs.map fun d => HX.fnX (kf s) d, fwrap.all fun d => d.ok (kf s), fwrap.map fun d => He5.fnA (kf s) (d.at_ (kf s))) = (true, xs.map HX.XcD.val, true, fwrap.map He5.DefA.val) := congrArg (·.2) e2
    have eo : (((((fa.all fun f => f.ok (kf s)) && fn.all fun d => d.ok (kf s), fn.map fun d => He.fnW (kf s) d.at_), (fx.all fun f => f (kf s)) && xs.all fun d => d.ok R.prog (kf s), xs.map fun d => HX.fnX (kf s) d), fwrap.all fun d => d.ok (kf s), fwrap.map fun d => He5.fnA (kf s) (d.at_ (kf s))) : HY.AlY) = (((true, (He.valD fn).2), true, xs.map HX.XcD.val), true, fwrap.map He5.DefA.val) := by
      show ((((fa.all fun f => f.ok (kf s)) && fn.all fun d => d.ok (kf s), fn.map fun d => He.fnW (kf s) d.at_), (fx.all fun f => f (kf s)) && xs.all fun d => d.ok R.prog (kf s), xs.map fun d => HX.fnX (kf s) d), fwrap.all fun d => d.ok (kf s), fwrap.map fun d => He5.fnA (kf s) (d.at_ (kf s))) = (((true, (He.valD fn).2), true, xs.map HX.XcD.val), true, fwrap.map He5.DefA.val)
      rw [q2, q3, q4]
      exact congr (congrArg _ (congr (congrArg _ rfl) (congr (congrArg _ (congrArg (·.1) q5)) (congrArg (·.2.1) q5)))) (congrArg (·.2.2) q5)
    exact congrArg some (congr (congrArg _ (congrArg (·.1) e1)) (congr (congrArg _ (congrArg (·.2) e1)) (congr (congrArg Prod.mk eo) e4)))
abbrev qv : Program := PySem.W.view R.prog [40]
abbrev df : DefRec := HandSHeadRun.topDef R.prog 40
theorem y_open : opening R.prog = plainProg R.prog.main.scope.names := by kernel_rfl
theorem y_fence : ∀ s, fenceModules? R.prog s = some s := fun s => by kernel_rfl
theorem y_def : defOf qv R.name = some (df, []) := by kernel_rfl
theorem y_the : R.prog.theDef R.name = some (df.params, df.body, df.scope) := by kernel_rfl
theorem y_kw : kwWritten? df.params.kwonlyargs df.params.kw_defaults = some [] := by kernel_rfl
theorem y_ok : (chainsOk qv && opensWell R.prog && (frees R.toRowW && R.within.isEmpty)) = true := by decide +kernel
theorem y_on (h : R.wellSaid = true → R.Holds) : PySem.Challenge.rw_tallyhouse_k00_errors.Holds := by
  w_on; o_law
  exact h (by assumption)
theorem y_bare : R.prog.bare := ⟨rfl, rfl, rfl, rfl, rfl, by decide +kernel⟩
end K00
/-! Own layer: data D, what a value stands for (Den), denotations of expressions and statements, and the soundness of the hand layer's readings against them. -/
namespace G
open PySem PySem.Spec PyProof.Rows L2
/-- data -/
inductive D where
  | non | bl (b : Bool) | int (i : Int) | str (s : Str) | tup (xs : List D) | lst (xs : List D)
  | dct (kvs : List (Key × D)) | dcT (kvs : List (List Key × D)) | dcL (kvs : List (List Key × D)) | dcQ (kvs : List (Key × D)) | dcX (kvs : List (D × D)) | ins (c : Str) (fs : List (Str × D)) | ty (n : String) | deck | slf | scr (ns : List Int) | exc (c : Str) (fs : List (Str × D)) | cls (c : Str)
/-- the deck of a law -/
structure Dk where
  cells : List Int
  mixed : Int
  turn : Int
  bl : Bool
  dr : Bool
def nmOf (b : Bool) : Str := match b with
  | true => Str.ofString "blend"
  | false => Str.ofString "mixed"
def ntOf (b : Bool) : Str := match b with
  | true => Str.ofString "draws"
  | false => Str.ofString "turn"
abbrev Ad := Addr × Addr × Addr
/-- the state: the deck, and the one instance that may change (self): its class, its fields -/
structure Sk where
  dk : Option Dk
  me : Option (Str × List (Str × D))
def Sk.sh (k : Sk) : Bool × Bool := (k.dk.isSome, k.me.isSome)
abbrev Cl := Str → Option Addr
/-- an exception as an object: at a, of the class at C, its dict -/
def exH (a C : Addr) (dd : Option Addr) : HO := .ext fun h => ∃ (oe : Obj) (vs : Array Value), h.get? a = some oe ∧ oe.cls = .ref C ∧ oe.dict = dd ∧ oe.data = .fields vs
mutual
/-- data as a key of any depth: None, whole numbers, bools, tuples of these -/
def keyX : D → Option NestedKey
  | .non => some .none
  | .int i => some (.num i)
  | .bl b => some (.num (if b = true then 1 else 0))
  | .tup ds => match keysX ds with
    | some ks => some (.tup ks)
    | none => none
  | _ => none
def keysX : List D → Option (List NestedKey)
  | [] => some []
  | d :: ds => match keyX d, keysX ds with
    | some k, some ks => some (k :: ks)
    | _, _ => none
end
abbrev XsT := List (NestedKey × Addr × Value)
/-- the dict at a, its keys tuples of any depth -/
def DxAt (a : Addr) (xs : XsT) : Heap → Prop := fun h => ∃ o es ep, h.get? a = some o ∧ o.ExactDict ∧ o.data = .dict es ep ∧
  (∀ (P : Program) (w : World), es.toList = xs.map (entryOfKey (nestedKind P w))) ∧ (xs.map (·.1)).Nodup ∧ xs.length ≤ sizeLine ∧ (a == sysModules) = false ∧ ∀ x ∈ xs, x.1.depth ≤ 8
mutual
inductive Den (K : PySem.W.Frag) (cl : Cl) (ad : Ad) (F : Hp) : V → D → Prop
  | non : Den K cl ad F .non .non
  | bl (b : Bool) : Den K cl ad F (.bl b) (.bl b)
  | int (i : Int) : Den K cl ad F (.int i) (.int i)
  | str (x : Str) : Den K cl ad F (.str x) (.str x)
  | ty (n : String) : Den K cl ad F (.ty n) (.ty n)
  | cls {C : Addr} {c : Str} : cl c = some C → Den K cl ad F (.ref C) (.cls c)
  | lst {a : Addr} {xs : List V} {ds : List D} : F a = some (.lst xs) → DenA K cl ad F xs ds → Den K cl ad F (.ref a) (.lst ds)
  | scr {a : Addr} {ns : List Int} : SqL K F a (ns.map V.int) → Den K cl ad F (.ref a) (.scr ns)
  | tup {a : Addr} {xs : List V} {ds : List D} : F a = some (.tup xs) → DenA K cl ad F xs ds → Den K cl ad F (.ref a) (.tup ds)
  | dct {a : Addr} {kvs : List (Key × V)} {ds : List (Key × D)} : F a = some (.dK kvs) → DenK K cl ad F kvs ds → Den K cl ad F (.ref a) (.dct ds)
  | dcT {a : Addr} {kvs : List (List Key × V)} {ds : List (List Key × D)} : F a = some (.dT kvs) → DenT K cl ad F kvs ds → Den K cl ad F (.ref a) (.dcT ds)
  | dcL {a : Addr} {o : Obj} {kvs : List (List Key × V)} {ds : List (List Key × D)} : F a = some (.frz o (.dT kvs)) → DenT K cl ad F kvs ds → Den K cl ad F (.ref a) (.dcL ds)
  | dcQ {a : Addr} {o : Obj} {kvs : List (Key × V)} {ds : List (Key × D)} : F a = some (.frz o (.dK kvs)) → DenK K cl ad F kvs ds → Den K cl ad F (.ref a) (.dcQ ds)
  | dcX {a b : Addr} {xs : XsT} {ds : List (D × D)} : F b = some (.ext (DxAt a xs)) → DenX K cl ad F xs ds → Den K cl ad F (.ref b) (.dcX ds)
  | ins {a C dx : Addr} {c : Str} {fs : List (Str × V)} {ds : List (Str × D)} : cl c = some C → F a = some (.ins C dx fs) → DenF K cl ad F fs ds → Den K cl ad F (.ref a) (.ins c ds)
  | deck : Den K cl ad F (.ref ad.1) .deck
  | slf : Den K cl ad F (.ref ad.2.2) .slf
  | exc0 {a C : Addr} {c : Str} : cl c = some C → F a = some (exH a C none) → Den K cl ad F (.ref a) (.exc c [])
  | exc {a C d : Addr} {c : Str} {vs : List (Str × V)} {fs : List (Str × D)} : cl c = some C → F a = some (exH a C (some d)) → F d = some (.xd vs) → DenF K cl ad F vs fs → Den K cl ad F (.ref a) (.exc c fs)
inductive DenA (K : PySem.W.Frag) (cl : Cl) (ad : Ad) (F : Hp) : List V → List D → Prop
  | nil : DenA K cl ad F [] []
  | cons {v : V} {vs : List V} {d : D} {ds : List D} : Den K cl ad F v d → DenA K cl ad F vs ds → DenA K cl ad F (v :: vs) (d :: ds)
inductive DenK (K : PySem.W.Frag) (cl : Cl) (ad : Ad) (F : Hp) : List (Key × V) → List (Key × D) → Prop
  | nil : DenK K cl ad F [] []
  | cons {k : Key} {v : V} {vs : List (Key × V)} {d : D} {ds : List (Key × D)} : Den K cl ad F v d → DenK K cl ad F vs ds → DenK K cl ad F ((k, v) :: vs) ((k, d) :: ds)
inductive DenT (K : PySem.W.Frag) (cl : Cl) (ad : Ad) (F : Hp) : List (List Key × V) → List (List Key × D) → Prop
  | nil : DenT K cl ad F [] []
  | cons {k : List Key} {v : V} {vs : List (List Key × V)} {d : D} {ds : List (List Key × D)} : Den K cl ad F v d → DenT K cl ad F vs ds → DenT K cl ad F ((k, v) :: vs) ((k, d) :: ds)
inductive DenX (K : PySem.W.Frag) (cl : Cl) (ad : Ad) (F : Hp) : XsT → List (D × D) → Prop
  | nil : DenX K cl ad F [] []
  | cons {k : NestedKey} {b : Addr} {u : Value} {v : V} {kd d : D} {xs : XsT} {ds : List (D × D)} : Den K cl ad F (.ref b) kd → keyX kd = some k → RelV v u → Den K cl ad F v d → DenX K cl ad F xs ds → DenX K cl ad F ((k, b, u) :: xs) ((kd, d) :: ds)
inductive DenF (K : PySem.W.Frag) (cl : Cl) (ad : Ad) (F : Hp) : List (Str × V) → List (Str × D) → Prop
  | nil : DenF K cl ad F [] []
  | cons {k : Str} {v : V} {vs : List (Str × V)} {d : D} {ds : List (Str × D)} : Den K cl ad F v d → DenF K cl ad F vs ds → DenF K cl ad F ((k, v) :: vs) ((k, d) :: ds)
end
theorem sqT_same {K : PySem.W.Frag} {H H' : Hp} {a : Addr} {xs : List V} (e : Same H H') (h : SqT K H a xs) : SqT K H' a xs := by
  rcases h with (h | ⟨o, h⟩) | h
  · exact .inl (.inl (e _ _ h))
  · exact .inl (.inr ⟨o, e _ _ h⟩)
  · exact .inr h
theorem tup_same {K : PySem.W.Frag} {H H' : Hp} {a : Addr} {xs : List V} (e : Same H H') (h : H a = some (.tup xs)) : SqT K H' a xs := .of (e _ _ h)
section
variable {K : PySem.W.Frag} {cl : Cl} {ad : Ad} {F F' : Hp}
mutual
theorem Den.mono (e : Same F F') : ∀ {v : V} {d : D}, Den K cl ad F v d → Den K cl ad F' v d
  | _, _, .non => .non
  | _, _, .bl b => .bl b
  | _, _, .int b => .int b
  | _, _, .str b => .str b
  | _, _, .ty b => .ty b
  | _, _, .cls b => .cls b
  | _, _, .lst h a => .lst (e _ _ h) (DenA.mono e a)
  | _, _, .scr h => .scr (e.seq h)
  | _, _, .tup h a => .tup (e _ _ h) (DenA.mono e a)
  | _, _, .dct h a => .dct (e _ _ h) (DenK.mono e a)
  | _, _, .dcT h a => .dcT (e _ _ h) (DenT.mono e a)
  | _, _, .dcL h a => .dcL (e _ _ h) (DenT.mono e a)
  | _, _, .dcQ h a => .dcQ (e _ _ h) (DenK.mono e a)
  | _, _, .dcX h a => .dcX (e _ _ h) (DenX.mono e a)
  | _, _, .ins c h a => .ins c (e _ _ h) (DenF.mono e a)
  | _, _, .slf => .slf
  | _, _, .deck => .deck
  | _, _, .exc0 c h => .exc0 c (e _ _ h)
  | _, _, .exc c h d a => .exc c (e _ _ h) (e _ _ d) (DenF.mono e a)
theorem DenA.mono (e : Same F F') : ∀ {v : List V} {d : List D}, DenA K cl ad F v d → DenA K cl ad F' v d
  | _, _, .nil => .nil
  | _, _, .cons a b => .cons (Den.mono e a) (DenA.mono e b)
theorem DenK.mono (e : Same F F') : ∀ {v : List (Key × V)} {d : List (Key × D)}, DenK K cl ad F v d → DenK K cl ad F' v d
  | _, _, .nil => .nil
  | _, _, .cons a b => .cons (Den.mono e a) (DenK.mono e b)
theorem DenT.mono (e : Same F F') : ∀ {v : List (List Key × V)} {d : List (List Key × D)}, DenT K cl ad F v d → DenT K cl ad F' v d
  | _, _, .nil => .nil
  | _, _, .cons a b => .cons (Den.mono e a) (DenT.mono e b)
theorem DenX.mono (e : Same F F') : ∀ {v : XsT} {d : List (D × D)}, DenX K cl ad F v d → DenX K cl ad F' v d
  | _, _, .nil => .nil
  | _, _, .cons k q r a b => .cons (Den.mono e k) q r (Den.mono e a) (DenX.mono e b)
theorem DenF.mono (e : Same F F') : ∀ {v : List (Str × V)} {d : List (Str × D)}, DenF K cl ad F v d → DenF K cl ad F' v d
  | _, _, .nil => .nil
  | _, _, .cons a b => .cons (Den.mono e a) (DenF.mono e b)
end
theorem DenA.length : ∀ {v : List V} {d : List D}, DenA K cl ad F v d → v.length = d.length
  | _, _, .nil => rfl
  | _, _, .cons _ b => by rw [List.length_cons, List.length_cons, DenA.length b]
theorem DenA.append : ∀ {v w : List V} {d e : List D}, DenA K cl ad F v d → DenA K cl ad F w e → DenA K cl ad F (v ++ w) (d ++ e)
  | _, _, _, _, .nil, h => h
  | _, _, _, _, .cons a b, h => .cons a (DenA.append b h)
theorem DenA.get : ∀ {v : List V} {d : List D} {i : Nat} {y : D}, DenA K cl ad F v d → d[i]? = some y → ∃ x, v[i]? = some x ∧ Den K cl ad F x y
  | _, _, _, _, .nil, e => by simp at e
  | _, _, 0, _, .cons a b, e => by simp at e; subst e; exact ⟨_, rfl, a⟩
  | _, _, i + 1, y, .cons a b, e => by
    obtain ⟨x, h1, h2⟩ := DenA.get (i := i) (y := y) b (by simpa using e)
    exact ⟨x, by simpa using h1, h2⟩
theorem DenA.take : ∀ {v : List V} {d : List D} (n : Nat), DenA K cl ad F v d → DenA K cl ad F (v.take n) (d.take n)
  | _, _, 0, _ => .nil
  | _, _, _ + 1, .nil => .nil
  | _, _, n + 1, .cons a b => .cons a (DenA.take n b)
theorem DenA.drop : ∀ {v : List V} {d : List D} (n : Nat), DenA K cl ad F v d → DenA K cl ad F (v.drop n) (d.drop n)
  | _, _, 0, h => h
  | _, _, _ + 1, .nil => .nil
  | _, _, n + 1, .cons a b => DenA.drop n b
theorem DenA.reverse : ∀ {v : List V} {d : List D}, DenA K cl ad F v d → DenA K cl ad F v.reverse d.reverse
  | _, _, .nil => .nil
  | _, _, .cons a b => by
    rw [List.reverse_cons, List.reverse_cons]
    exact DenA.append (DenA.reverse b) (.cons a .nil)
end
/-- a slot: nothing known; a value; a list or dict of one's own that may still change -/
inductive Sl where
  | emp | val (d : D) | own (d : D)
/-- what lies in the heap for an own list, an own dict -/
def OwnOk (K : PySem.W.Frag) (cl : Cl) (ad : Ad) (F : Hp) : HO → D → Prop
  | .lst vs, .lst xs => DenA K cl ad F vs xs
  | .dK vs, .dct ds => DenK K cl ad F vs ds
  | .dT vs, .dcT ds => DenT K cl ad F vs ds
  | .ext φ, .dcX ds => ∃ a xs, φ = DxAt a xs ∧ DenX K cl ad F xs ds
  | _, _ => False
theorem OwnOk.mono {K : PySem.W.Frag} {cl : Cl} {ad : Ad} {F F' : Hp} (e : Same F F') {o : HO} {d : D} (h : OwnOk K cl ad F o d) : OwnOk K cl ad F' o d := by
  cases o <;> cases d <;> first | exact False.elim h | exact DenA.mono e h | exact DenK.mono e h | exact DenT.mono e h | exact (let ⟨a, xs, q, r⟩ := h; ⟨a, xs, q, DenX.mono e r⟩)
theorem OwnOk.den {K : PySem.W.Frag} {cl : Cl} {ad : Ad} {F : Hp} {b : Addr} {o : HO} {d : D} (hb : F b = some o) (h : OwnOk K cl ad F o d) : Den K cl ad F (.ref b) d := by
  cases o <;> cases d <;> first | exact False.elim h | exact .lst hb h | exact .dct hb h | exact .dcT hb h | exact (let ⟨a, xs, q, r⟩ := h; .dcX (a := a) (xs := xs) (by rw [hb, q]) r)
theorem OwnOk.lst {K : PySem.W.Frag} {cl : Cl} {ad : Ad} {F : Hp} {o : HO} {xs : List D} (h : OwnOk K cl ad F o (.lst xs)) : ∃ vs, o = .lst vs ∧ DenA K cl ad F vs xs := by
  cases o <;> first | exact False.elim h | exact ⟨_, rfl, h⟩
theorem OwnOk.dct {K : PySem.W.Frag} {cl : Cl} {ad : Ad} {F : Hp} {o : HO} {xs : List (Key × D)} (h : OwnOk K cl ad F o (.dct xs)) : ∃ vs, o = .dK vs ∧ DenK K cl ad F vs xs := by
  cases o <;> first | exact False.elim h | exact ⟨_, rfl, h⟩
theorem OwnOk.dcT {K : PySem.W.Frag} {cl : Cl} {ad : Ad} {F : Hp} {o : HO} {xs : List (List Key × D)} (h : OwnOk K cl ad F o (.dcT xs)) : ∃ vs, o = .dT vs ∧ DenT K cl ad F vs xs := by
  cases o <;> first | exact False.elim h | exact ⟨_, rfl, h⟩
theorem OwnOk.dcX {K : PySem.W.Frag} {cl : Cl} {ad : Ad} {F : Hp} {o : HO} {xs : List (D × D)} (h : OwnOk K cl ad F o (.dcX xs)) : ∃ a ys, o = .ext (DxAt a ys) ∧ DenX K cl ad F ys xs := by
  cases o <;> first | exact False.elim h | exact (let ⟨a, ys, q, r⟩ := h; ⟨a, ys, by rw [q], r⟩)
/-- not a tuple -/
def NT (o : HO) : Prop := ∀ xs, o ≠ .tup xs
theorem OwnOk.nt {K : PySem.W.Frag} {cl : Cl} {ad : Ad} {F : Hp} {o : HO} {d : D} (h : OwnOk K cl ad F o d) : NT o := by
  cases o <;> cases d <;> first | exact False.elim h | exact fun _ z => nomatch z
/-- what stands and is no tuple is not frozen, and stays no tuple -/
def Nz (F H F' H' : Hp) : Prop := ∀ b o, H b = some o → NT o → F b = none → F' b = none ∧ ∃ o', H' b = some o' ∧ NT o'
theorem Nz.upd {F H F' H' : Hp} (n : Nz F H F' H') {p : Addr} {u : HO} (hu : NT u) : Nz F H F' (L2.upd H' p u) := fun b o h nt f => by
  obtain ⟨f1, o1, h1, n1⟩ := n b o h nt f
  by_cases e : b = p
  · subst e
    exact ⟨f1, u, upd_same, hu⟩
  · exact ⟨f1, o1, by rw [upd_ne e]; exact h1, n1⟩
theorem Nz.old {F H F' H' : Hp} (n : Nz F H F' H') {p : Addr} {u : HO} (hp : H p = none) : Nz F H F' (L2.upd H' p u) := fun b o h nt f => by
  obtain ⟨f1, o1, h1, n1⟩ := n b o h nt f
  exact ⟨f1, o1, by rw [upd_ne (ne_of_none h hp)]; exact h1, n1⟩
theorem Nz.frz {F H F' H' : Hp} (n : Nz F H F' H') {p : Addr} {u : HO} (hp : H p = none) : Nz F H (L2.upd F' p u) H' := fun b o h nt f => by
  obtain ⟨f1, o1, h1, n1⟩ := n b o h nt f
  exact ⟨by rw [upd_ne (ne_of_none h hp)]; exact f1, o1, h1, n1⟩
def DkOk (H F : Hp) (ad : Ad) (k : Dk) : Prop :=
  F ad.1 = none ∧ F ad.2.1 = none ∧ ad.1 ≠ ad.2.1 ∧
  H ad.1 = some (.dK [(Sum.inr (Str.ofString "cells"), .ref ad.2.1), (Sum.inr (nmOf k.bl), .int k.mixed), (Sum.inr (ntOf k.dr), .int k.turn)]) ∧ H ad.2.1 = some (.lst (k.cells.map V.int))
def MeOk (K : PySem.W.Frag) (cl : Cl) (ad : Ad) (H F : Hp) (c : Str) (fs : List (Str × D)) : Prop :=
  F ad.2.2 = none ∧ ∃ C dx ws, cl c = some C ∧ H ad.2.2 = some (.ins C dx ws) ∧ DenF K cl ad F ws fs
/-- not what may change -/
def Fre (ad : Ad) (k : Sk) (b : Addr) : Prop := (k.dk.isSome = true → b ≠ ad.1 ∧ b ≠ ad.2.1) ∧ (k.me.isSome = true → b ≠ ad.2.2)
theorem Fre.sh {ad : Ad} {k k' : Sk} {b : Addr} (e : k'.sh = k.sh) (h : Fre ad k b) : Fre ad k' b := by
  have e1 : k'.dk.isSome = k.dk.isSome := congrArg (·.1) e
  have e2 : k'.me.isSome = k.me.isSome := congrArg (·.2) e
  exact ⟨fun z => h.1 (e1 ▸ z), fun z => h.2 (e2 ▸ z)⟩
structure KOk (K : PySem.W.Frag) (cl : Cl) (ad : Ad) (H F : Hp) (k : Sk) : Prop where
  d : ∀ d, k.dk = some d → DkOk H F ad d
  m : ∀ c fs, k.me = some (c, fs) → MeOk K cl ad H F c fs
theorem KOk.fre {K : PySem.W.Frag} {cl : Cl} {ad : Ad} {H F : Hp} {k : Sk} {p : Addr} (h : KOk K cl ad H F k) (hp : H p = none) : Fre ad k p := by
  refine ⟨fun z => ?_, fun z => ?_⟩
  · obtain ⟨d, e⟩ := Option.isSome_iff_exists.mp z
    obtain ⟨_, _, _, h4, h5⟩ := h.d d e
    refine ⟨fun z => ?_, fun z => ?_⟩
    · rw [z, h4] at hp; cases hp
    · rw [z, h5] at hp; cases hp
  · obtain ⟨⟨c, fs⟩, e⟩ := Option.isSome_iff_exists.mp z
    obtain ⟨_, C, dx, ws, _, h4, _⟩ := h.m c fs e
    intro z
    rw [z, h4] at hp; cases hp
theorem KOk.upd {K : PySem.W.Frag} {cl : Cl} {ad : Ad} {H F : Hp} {k : Sk} {p : Addr} {o : HO} (h : KOk K cl ad H F k) (hp : Fre ad k p) : KOk K cl ad (upd H p o) F k := by
  refine ⟨fun d e => ?_, fun c fs e => ?_⟩
  · obtain ⟨h1, h2, h3, h4, h5⟩ := h.d d e
    have n := hp.1 (by rw [e]; rfl)
    exact ⟨h1, h2, h3, by rw [upd_ne n.1.symm]; exact h4, by rw [upd_ne n.2.symm]; exact h5⟩
  · obtain ⟨h1, C, dx, ws, h2, h3, h4⟩ := h.m c fs e
    have n := hp.2 (by rw [e]; rfl)
    exact ⟨h1, C, dx, ws, h2, by rw [upd_ne n.symm]; exact h3, h4⟩
/-- further things are frozen, what may change is as it was -/
theorem KOk.step {K : PySem.W.Frag} {cl : Cl} {ad : Ad} {H F H' F' : Hp} {k : Sk} (h : KOk K cl ad H F k) (sub : Same F F') (keep : ∀ b o, H b = some o → H' b = some o) (nofz : ∀ b o, H b = some o → NT o → F b = none → F' b = none) : KOk K cl ad H' F' k := by
  refine ⟨fun d e => ?_, fun c fs e => ?_⟩
  · obtain ⟨h1, h2, h3, h4, h5⟩ := h.d d e
    exact ⟨nofz _ _ h4 (fun _ z => nomatch z) h1, nofz _ _ h5 (fun _ z => nomatch z) h2, h3, keep _ _ h4, keep _ _ h5⟩
  · obtain ⟨h1, C, dx, ws, h2, h3, h4⟩ := h.m c fs e
    exact ⟨nofz _ _ h3 (fun _ z => nomatch z) h1, C, dx, ws, h2, keep _ _ h3, h4.mono sub⟩
structure Rel (K : PySem.W.Frag) (cl : Cl) (ad : Ad) (σ : L2.St) (H F : Hp) (s : List Sl) (k : Sk) : Prop where
  sub : Same F H
  len : σ.length = s.length
  val : ∀ (i : Nat) (d : D), s[i]? = some (Sl.val d) → ∃ v, σ[i]? = some (some v) ∧ Den K cl ad F v d
  own : ∀ (i : Nat) (xs : D), s[i]? = some (Sl.own xs) → ∃ b vs, σ[i]? = some (some (.ref b)) ∧ H b = some vs ∧ F b = none ∧ Fre ad k b ∧ OwnOk K cl ad F vs xs
  inj : ∀ (i j : Nat) (xs ys : D) (b : Addr), s[i]? = some (Sl.own xs) → s[j]? = some (Sl.own ys) → σ[i]? = some (some (V.ref b)) → σ[j]? = some (some (V.ref b)) → i = j
  dk : KOk K cl ad H F k
/-- what an expression's evaluation leaves: all that stood, but the deck; nothing of it is frozen -/
structure Ext (ad : Ad) (k k' : Sk) (F H F' H' : Hp) : Prop where
  some : k'.sh = k.sh
  sub : Same F F'
  keep : ∀ b o, H b = Option.some o → Fre ad k b → H' b = Option.some o
  there : ∀ b, H b ≠ none → H' b ≠ none
  nofz : Nz F H F' H'
theorem Ext.refl {ad : Ad} {k : Sk} {F H : Hp} : Ext ad k k F H F H := ⟨rfl, Same.refl _, fun _ _ h _ => h, fun _ h => h, fun _ o h n f => ⟨f, o, h, n⟩⟩
theorem Ext.trans {ad : Ad} {k k1 k2 : Sk} {F H F1 H1 F2 H2 : Hp} (a : Ext ad k k1 F H F1 H1) (b : Ext ad k1 k2 F1 H1 F2 H2) : Ext ad k k2 F H F2 H2 :=
  ⟨b.some.trans a.some, a.sub.trans b.sub, fun c o h n => b.keep c o (a.keep c o h n) (n.sh a.some), fun c h => b.there c (a.there c h), fun c o h n f => let ⟨f1, o1, h1, n1⟩ := a.nofz c o h n f; b.nofz c o1 h1 n1 f1⟩
/-- new frozen objects alone -/
structure New (F H F' H' : Hp) : Prop where
  sub : Same F F'
  keep : Same H H'
  ok : Same F' H'
  fresh : ∀ b, F b = none → F' b ≠ none → H b = none ∨ ∃ xs, H b = some (.tup xs)
theorem New.refl {F H : Hp} (h : Same F H) : New F H F H := ⟨Same.refl _, Same.refl _, h, fun _ a b => absurd a b⟩
theorem New.nofz {F H F' H' : Hp} (n : New F H F' H') : Nz F H F' H' := fun b o h nt f => by
  refine ⟨?_, o, n.keep b o h, nt⟩
  cases q : F' b with
  | none => rfl
  | some u =>
    rcases n.fresh b f (by rw [q]; exact fun z => nomatch z) with e | ⟨xs, e⟩
    · rw [h] at e; cases e
    · rw [h] at e; cases e; exact absurd rfl (nt xs)
theorem New.trans {F H F1 H1 F2 H2 : Hp} (a : New F H F1 H1) (b : New F1 H1 F2 H2) : New F H F2 H2 :=
  ⟨a.sub.trans b.sub, a.keep.trans b.keep, b.ok, fun c h1 h2 => by
    cases q : F1 c with
    | some o => exact a.fresh c h1 (by rw [q]; exact fun z => nomatch z)
    | none =>
      rcases b.fresh c q h2 with e | ⟨xs, e⟩
      · exact .inl (a.keep.free e)
      · cases w : H c with
        | none => exact .inl rfl
        | some o =>
          have := a.keep c o w
          rw [e] at this
          cases this
          exact .inr ⟨xs, rfl⟩⟩
theorem same_ne {F H : Hp} (h : Same F H) {b : Addr} : F b ≠ none → H b ≠ none := fun n z => by
  cases q : F b with
  | none => exact n q
  | some o => rw [h b o q] at z; cases z
theorem New.ext {ad : Ad} {k : Sk} {F H F' H' : Hp} (n : New F H F' H') : Ext ad k k F H F' H' :=
  ⟨rfl, n.sub, fun b o h _ => n.keep b o h, fun b h => same_ne n.keep h, n.nofz⟩
/-- one new object, frozen -/
theorem New.one {F H : Hp} {p : Addr} {o : HO} (h : Same F H) (hp : H p = none) : New F H (upd F p o) (upd H p o) := by
  have hf : F p = none := h.free hp
  refine ⟨fun b u e => ?_, fun b u e => ?_, fun b u e => ?_, fun b h1 h2 => ?_⟩
  · rw [upd_ne (ne_of_none e hf)]; exact e
  · rw [upd_ne (ne_of_none e hp)]; exact e
  · by_cases hb : b = p
    · subst hb; rw [upd_same] at e ⊢; exact e
    · rw [upd_ne hb] at e ⊢; exact h b u e
  · by_cases hb : b = p
    · subst hb; exact .inl hp
    · rw [upd_ne hb] at h2; exact absurd h1 h2
section
variable {K : PySem.W.Frag} {cl : Cl} {ad : Ad} {σ : L2.St} {H F H' F' : Hp} {s : List Sl} {k : Sk}
theorem Rel.new (r : Rel K cl ad σ H F s k) (n : New F H F' H') : Rel K cl ad σ H' F' s k where
  sub := n.ok
  len := r.len
  val := fun i d e => let ⟨v, h1, h2⟩ := r.val i d e; ⟨v, h1, h2.mono n.sub⟩
  own := fun i xs e => by
    obtain ⟨b, vs, h1, h2, h3, h4, h5⟩ := r.own i xs e
    exact ⟨b, vs, h1, n.keep _ _ h2, (n.nofz b _ h2 h5.nt h3).1, h4, h5.mono n.sub⟩
  inj := r.inj
  dk := r.dk.step n.sub n.keep fun b o h nt f => (n.nofz b o h nt f).1
end
/-! ### denotations of expressions -/
inductive RE (α : Type) where
  | ok (a : α) (k : Sk)
  | ex (c : Str) (fs : List (Str × D)) (k : Sk)
  | no
def ME (α : Type) := List Sl → Sk → RE α
def eb {α β : Type} (m : ME α) (f : α → ME β) : ME β := fun s k => match m s k with
  | .ok a k' => f a s k'
  | .ex c fs k' => .ex c fs k'
  | .no => .no
def ep {α : Type} (a : α) : ME α := fun _ k => .ok a k
def eo {α : Type} (o : Option α) : ME α := fun _ k => match o with
  | some a => .ok a k
  | none => .no
/-- an exception, as it lies -/
def ExcIs (K : PySem.W.Frag) (cl : Cl) (ad : Ad) (F : Hp) (cls : Value) (dd : Option Addr) (c : Str) (fs : List (Str × D)) : Prop :=
  ∃ C, cl c = some C ∧ cls = .ref C ∧ ((fs = [] ∧ dd = none) ∨ ∃ d vs, dd = some d ∧ F d = some (.xd vs) ∧ DenF K cl ad F vs fs)
def Post {α β : Type} (K : PySem.W.Frag) (cl : Cl) (W : WX) (R : Ad → Hp → β → α → Prop) (ad : Ad) (σ : L2.St) (H F : Hp) (s : List Sl) (k : Sk) (r : RE α) (Q : β → Hp → Prop) : Prop :=
  match r with
  | .ok d k' => ∀ v H' F', Rel K cl ad σ H' F' s k' → Ext ad k k' F H F' H' → R ad F' v d → Q v H'
  | .ex c fs k' => ∀ cls dd H' F', Rel K cl ad σ H' F' s k' → Ext ad k k' F H F' H' → ExcIs K cl ad F' cls dd c fs → W cls dd σ H'
  | .no => False
def Sn {α β : Type} (K : PySem.W.Frag) (cl : Cl) (W : WX) (R : Ad → Hp → β → α → Prop) (r : L2.St → Hp → (β → Hp → Prop) → Prop) (t : ME α) : Prop :=
  ∀ ad σ H F s k Q, Rel K cl ad σ H F s k → Post K cl W R ad σ H F s k (t s k) Q → r σ H Q
abbrev RD (K : PySem.W.Frag) (cl : Cl) : Ad → Hp → V → D → Prop := fun ad F v d => Den K cl ad F v d
abbrev RA (K : PySem.W.Frag) (cl : Cl) : Ad → Hp → List V → List D → Prop := fun ad F v d => DenA K cl ad F v d
abbrev RB : Ad → Hp → Bool → Bool → Prop := fun _ _ v d => v = d
section
variable {K : PySem.W.Frag} {cl : Cl} {W : WX} {ad : Ad} {σ : L2.St} {H F H1 F1 : Hp} {s : List Sl} {k k1 : Sk} {α β γ δ : Type}
theorem Post.from {R : Ad → Hp → β → α → Prop} {r : RE α} {Q : β → Hp → Prop} (e : Ext ad k k1 F H F1 H1) (p : Post K cl W R ad σ H F s k r Q) : Post K cl W R ad σ H1 F1 s k1 r Q := by
  cases r with
  | ok d k' => exact fun v H' F' r x d => p v H' F' r (e.trans x) d
  | ex c fs k' => exact fun c dd H' F' r x d => p c dd H' F' r (e.trans x) d
  | no => exact p
theorem Sn.bind {R : Ad → Hp → β → α → Prop} {R2 : Ad → Hp → δ → γ → Prop} {r : L2.St → Hp → (β → Hp → Prop) → Prop} {t : ME α} {f : α → ME γ} {Q : δ → Hp → Prop} {G : β → Hp → Prop}
    (h : Sn K cl W R r t) (rel : Rel K cl ad σ H F s k) (p : Post K cl W R2 ad σ H F s k (eb t f s k) Q)
    (g : ∀ v d H1 F1 k1, t s k = .ok d k1 → Rel K cl ad σ H1 F1 s k1 → Ext ad k k1 F H F1 H1 → R ad F1 v d → Post K cl W R2 ad σ H1 F1 s k1 (f d s k1) Q → G v H1) : r σ H G := by
  refine h ad σ H F s k G rel ?_
  unfold eb at p
  cases q : t s k with
  | ok d k1 =>
    rw [q] at p
    exact fun v H1 F1 r1 x1 d1 => g v d H1 F1 k1 q r1 x1 d1 (p.from x1)
  | ex c fs k1 =>
    rw [q] at p
    exact p
  | no =>
    rw [q] at p
    exact p
theorem Post.eo {R : Ad → Hp → β → α → Prop} {o : Option α} {Q : β → Hp → Prop} (p : Post K cl W R ad σ H F s k (G.eo o s k) Q) : ∃ a, o = some a ∧ Post K cl W R ad σ H F s k (.ok a k) Q := by
  cases o with
  | none => exact False.elim p
  | some a => exact ⟨a, rfl, p⟩
theorem Post.ok {R : Ad → Hp → β → α → Prop} {a : α} {Q : β → Hp → Prop} {v : β} {H' F' : Hp} (p : Post K cl W R ad σ H F s k (.ok a k) Q) (rel : Rel K cl ad σ H F s k) (n : New F H F' H') (d : R ad F' v a) : Q v H' :=
  p v H' F' (rel.new n) n.ext d
theorem Post.ok0 {R : Ad → Hp → β → α → Prop} {a : α} {Q : β → Hp → Prop} {v : β} (p : Post K cl W R ad σ H F s k (.ok a k) Q) (rel : Rel K cl ad σ H F s k) (d : R ad F v a) : Q v H :=
  p v H F rel Ext.refl d
end
/-! ### the judgements -/
def clOf (mg : Str → Option Value) : Cl := fun c => match mg c with
  | some (.ref C) => some C
  | _ => none
abbrev Cx.cl (X : Cx) : Cl := clOf X.mg
structure UE (X : Cx) (W : WX) (r : TE) (t : ME D) (e : Expr) : Prop where
  pe : PE X e r
  sn : Sn X.K (clOf X.mg) W (RD X.K (clOf X.mg)) r t
structure UT (X : Cx) (W : WX) (r : TT) (t : ME Bool) (e : Expr) : Prop where
  pt : PT X e r
  sn : Sn X.K (clOf X.mg) W RB r t
structure UW (X : Cx) (W : WX) (r : TT) (t : ME Bool) (e : Expr) : Prop where
  pw : PW X e r
  sn : Sn X.K (clOf X.mg) W RB r t
structure UA (X : Cx) (W : WX) (r : TA) (t : ME (List D)) (es : List Expr) : Prop where
  pa : PA X es r
  sn : Sn X.K (clOf X.mg) W (RA X.K (clOf X.mg)) r t
section
variable {X : Cx} {W : WX} {a b c : Expr} {ra rb rc : TE} {ta tb tc : ME D} {pos : Pos}
/-! ### names and constants -/
def dVar (i : Nat) : ME D := fun s k => match s[i]? with
  | some (.val d) => .ok d k
  | _ => .no
theorem u_var (i : Nat) {x : Str} (h : PE X (.Name x pos) (tVar i)) : UE X W (tVar i) (dVar i) (.Name x pos) := by
  refine ⟨h, fun ad σ H F s k Q rel p => ?_⟩
  unfold dVar at p
  cases q : s[i]? with
  | none => rw [q] at p; exact False.elim p
  | some z =>
    rw [q] at p
    cases z with
    | emp => exact False.elim p
    | own xs => exact False.elim p
    | val d =>
      obtain ⟨v, h1, h2⟩ := rel.val i d q
      exact ⟨v, h1, p.ok0 rel h2⟩
theorem u_c {v : V} {d : D} {e : Expr} (h : PE X e (tC v)) (hd : ∀ ad F, Den X.K (clOf X.mg) ad F v d) : UE X W (tC v) (ep d) e :=
  ⟨h, fun ad σ H F s k Q rel p => p.ok0 (a := d) rel (hd ad F)⟩
theorem u_int {i : Int} {j} : UE X W (tC (.int i)) (ep (.int i)) (.Constant (.int i) j pos) := u_c pe_int fun _ _ => .int i
theorem u_bl {i : Bool} {j} : UE X W (tC (.bl i)) (ep (.bl i)) (.Constant (.bool i) j pos) := u_c pe_bl fun _ _ => .bl i
theorem u_non {j} : UE X W (tC .non) (ep .non) (.Constant .none j pos) := u_c pe_non fun _ _ => .non
theorem u_str {x j} : UE X W (tC (.str x)) (ep (.str x)) (.Constant (.str x) j pos) := u_c pe_str fun _ _ => .str x
/-! ### operators -/
def dOp (f : D → D → Option D) (ta tb : ME D) : ME D := eb ta fun x => eb tb fun y => eo (f x y)
def OpSn (K : PySem.W.Frag) (cl : Cl) (r : R2) (f : D → D → Option D) : Prop :=
  ∀ ad F H x y d e z Q, Same F H → Den K cl ad F x d → Den K cl ad F y e → f d e = some z → (∀ v H' F', New F H F' H' → Den K cl ad F' v z → Q v H') → r x y H Q
theorem sn_op {r : R2} {f : D → D → Option D} {K : PySem.W.Frag} {cl : Cl} (h : OpSn K cl r f) (ha : Sn K cl W (RD K cl) ra ta) (hb : Sn K cl W (RD K cl) rb tb) : Sn K cl W (RD K cl) (tOp r ra rb) (dOp f ta tb) := by
  intro ad σ H F s k Q rel p
  refine ha.bind rel p fun x d H1 F1 k1 _ r1 x1 d1 p1 => ?_
  refine hb.bind r1 p1 fun y e H2 F2 k2 _ r2 x2 d2 p2 => ?_
  obtain ⟨z, hz, p3⟩ := p2.eo
  exact h ad F2 H2 x y d e z Q r2.sub (d1.mono x2.sub) d2 hz fun v H' F' n dv => p3.ok r2 n dv
theorem u_op {op : Operator} {r : R2} {f : D → D → Option D} (ho : OpR X (binaryOp op) r) (h : OpSn X.K (clOf X.mg) r f) (ha : UE X W ra ta a) (hb : UE X W rb tb b) : UE X W (tOp r ra rb) (dOp f ta tb) (.BinOp a op b pos) :=
  ⟨pe_op ho ha.pe hb.pe, sn_op h ha.sn hb.sn⟩
theorem u_cmp {op : CmpOp} {r : R2} {f : D → D → Option D} (ho : OpR X (compareOp op) r) (h : OpSn X.K (clOf X.mg) r f) (ha : UE X W ra ta a) (hb : UE X W rb tb b) (hm : behindInMarks op b = false) : UE X W (tOp r ra rb) (dOp f ta tb) (.Compare a [op] [b] pos) :=
  ⟨pe_cmpR ho ha.pe hb.pe hm, sn_op h ha.sn hb.sn⟩
/-- a value that is a bool, as a test -/
def dB (t : ME D) : ME Bool := eb t fun x => eo (match x with
  | .bl b => some b
  | _ => none)
theorem sn_test {K : PySem.W.Frag} {cl : Cl} (ha : Sn K cl W (RD K cl) ra ta) : Sn K cl W RB (tTest ra) (dB ta) := by
  intro ad σ H F s k Q rel p
  refine ha.bind rel p fun x d H1 F1 k1 _ r1 x1 d1 p1 => ?_
  obtain ⟨z, hz, p3⟩ := p1.eo
  cases d1 with
  | bl b =>
    cases hz
    exact ⟨_, rfl, p3.ok0 r1 rfl⟩
  | _ => cases hz
theorem ut_cmp {op : CmpOp} {r : R2} {f : D → D → Option D} (ho : OpR X (compareOp op) r) (h : OpSn X.K (clOf X.mg) r f) (ha : UE X W ra ta a) (hb : UE X W rb tb b) (hm : behindInMarks op b = false) : UT X W (tTest (tOp r ra rb)) (dB (dOp f ta tb)) (.Compare a [op] [b] pos) :=
  ⟨pt_cmpR ho ha.pe hb.pe hm, sn_test (sn_op h ha.sn hb.sn)⟩
theorem ut_val {e : Expr} (h : UE X W ra ta e) (he : ∀ whole, isTrue e X.env whole = (do let v ← whole; standAt e.pos; holding [v] (truthy v)) := by intro _; rfl) : UT X W (tB ra) (dB ta) e :=
  ⟨pt_val h.pe he, sn_test h.sn⟩
/-- -x -/
def dUn (f : D → Option D) (ta : ME D) : ME D := eb ta fun x => eo (f x)
theorem u_neg (ha : UE X W ra ta a) : UE X W (tUn (rU fun i => .int (-i)) ra) (dUn (fun x => match x with | .int i => some (.int (-i)) | _ => none) ta) (.UnaryOp .USub a pos) := by
  refine ⟨pe_un un_neg ha.pe, fun ad σ H F s k Q rel p => ?_⟩
  refine ha.sn.bind rel p fun x d H1 F1 k1 _ r1 x1 d1 p1 => ?_
  obtain ⟨z, hz, p3⟩ := p1.eo
  cases d1 with
  | int i => cases hz; exact ⟨i, rfl, p3.ok0 r1 (.int _)⟩
  | _ => cases hz
/-! ### and, or, not -/
def dAndV (ta tb : ME D) : ME D := eb ta fun x => match x with
  | .bl true => tb
  | .bl false => ep (.bl false)
  | _ => fun _ _ => .no
theorem u_one {op} (h : UE X W ra ta a) : UE X W ra ta (.BoolOp op [a] pos) := ⟨pe_one h.pe, h.sn⟩
theorem u_and {rest : List Expr} (ha : UE X W ra ta a) (hb : UE X W rb tb (.BoolOp .And (b :: rest) pos)) : UE X W (tAndV ra rb) (dAndV ta tb) (.BoolOp .And (a :: b :: rest) pos) := by
  refine ⟨pe_and ha.pe hb.pe, fun ad σ H F s k Q rel p => ?_⟩
  refine ha.sn.bind rel p fun x d H1 F1 k1 _ r1 x1 d1 p1 => ?_
  cases d1 with
  | bl b =>
    refine ⟨b, rfl, ?_⟩
    cases b with
    | true => exact iteT (hb.sn ad σ H1 F1 s k1 Q r1 p1)
    | false => exact iteF (p1.ok0 (a := D.bl false) r1 (.bl false))
  | _ => exact False.elim p1
def dOr (ta tb : ME Bool) : ME Bool := eb ta fun x => if x = true then ep true else tb
def dNot (ta : ME Bool) : ME Bool := eb ta fun x => ep (!x)
variable {qa qb : TT} {sa sb : ME Bool}
theorem UW.ut {e : Expr} (h : UW X W qa sa e) : UT X W qa sa e := ⟨h.pw.pt, h.sn⟩
theorem uw_or1 (ha : UT X W qa sa a) : UW X W qa sa (.BoolOp .Or [a] pos) := ⟨pw_or1 ha.pt, ha.sn⟩
theorem uw_or {rest : List Expr} (ha : UT X W qa sa a) (hb : UW X W qb sb (.BoolOp .Or (b :: rest) pos)) : UW X W (tOr qa qb) (dOr sa sb) (.BoolOp .Or (a :: b :: rest) pos) := by
  refine ⟨pw_or ha.pt hb.pw, fun ad σ H F s k Q rel p => ?_⟩
  refine ha.sn.bind rel p fun x d H1 F1 k1 _ r1 x1 d1 p1 => ?_
  cases d1
  cases x with
  | false => exact iteF (hb.sn ad σ H1 F1 s k1 Q r1 p1)
  | true => exact iteT (p1.ok0 (a := true) r1 rfl)
theorem ut_not (ha : UT X W qa sa a) : UT X W (tNot qa) (dNot sa) (.UnaryOp .Not a pos) := by
  refine ⟨pt_not ha.pt, fun ad σ H F s k Q rel p => ?_⟩
  refine ha.sn.bind rel p fun x d H1 F1 k1 _ r1 x1 d1 p1 => ?_
  cases d1
  exact p1.ok0 (a := !x) r1 rfl
def dIfE (sc : ME Bool) (ta tb : ME D) : ME D := eb sc fun x => if x = true then ta else tb
theorem u_ifExp (hc : UT X W qa sa c) (ha : UE X W ra ta a) (hb : UE X W rb tb b) : UE X W (tIf qa ra rb) (dIfE sa ta tb) (.IfExp c a b pos) := by
  refine ⟨pe_ifExp hc.pt ha.pe hb.pe, fun ad σ H F s k Q rel p => ?_⟩
  refine hc.sn.bind rel p fun x d H1 F1 k1 _ r1 x1 d1 p1 => ?_
  cases d1
  cases x with
  | true => exact iteT (ha.sn ad σ H1 F1 s k1 Q r1 p1)
  | false => exact iteF (hb.sn ad σ H1 F1 s k1 Q r1 p1)
/-! ### argument lists, displays -/
def dNil : ME (List D) := ep []
def dCons (ta : ME D) (tr : ME (List D)) : ME (List D) := eb ta fun x => eb tr fun xs => ep (x :: xs)
variable {es : List Expr} {re : TA} {te : ME (List D)}
theorem ua_nil : UA X W tNil dNil [] := ⟨pa_nil, fun ad σ H F s k Q rel p => p.ok0 (a := []) rel .nil⟩
theorem ua_cons (ha : UE X W ra ta a) (hr : UA X W re te es) (hs : starEach (a :: es) X.env = (false, eval a X.env) :: starEach es X.env := by rfl) : UA X W (tCons ra re) (dCons ta te) (a :: es) := by
  refine ⟨pa_cons ha.pe hr.pa hs, fun ad σ H F s k Q rel p => ?_⟩
  refine ha.sn.bind rel p fun x d H1 F1 k1 _ r1 x1 d1 p1 => ?_
  refine hr.sn.bind r1 p1 fun xs ds H2 F2 k2 _ r2 x2 d2 p2 => ?_
  exact p2.ok0 (a := d :: ds) r2 (.cons (d1.mono x2.sub) d2)
def dTup (te : ME (List D)) : ME D := eb te fun xs => eo (if xs.length ≤ sizeLine then some (.tup xs) else none)
def dLst (te : ME (List D)) : ME D := eb te fun xs => eo (if xs.length ≤ sizeLine then some (.lst xs) else none)
theorem u_tup {x1} (h : UA X W re te es) : UE X W (tTup re) (dTup te) (.Tuple es x1 pos) := by
  refine ⟨pe_tup h.pa, fun ad σ H F s k Q rel p => ?_⟩
  refine h.sn.bind rel p fun xs ds H1 F1 k1 _ r1 x1 d1 p1 => ?_
  obtain ⟨z, hz, p3⟩ := p1.eo
  by_cases hl : ds.length ≤ sizeLine
  · rw [if_pos hl] at hz
    cases hz
    refine ⟨by rw [d1.length]; exact hl, fun q hq => ?_⟩
    have n := New.one (o := .tup xs) r1.sub hq
    exact p3.ok r1 n (.tup upd_same (d1.mono n.sub))
  · rw [if_neg hl] at hz; cases hz
theorem u_lst (h : UA X W re te es) : UE X W (tLst re) (dLst te) (.List es pos) := by
  refine ⟨pe_lst h.pa, fun ad σ H F s k Q rel p => ?_⟩
  refine h.sn.bind rel p fun xs ds H1 F1 k1 _ r1 x1 d1 p1 => ?_
  obtain ⟨z, hz, p3⟩ := p1.eo
  by_cases hl : ds.length ≤ sizeLine
  · rw [if_pos hl] at hz
    cases hz
    refine ⟨by rw [d1.length]; exact hl, fun q hq => ?_⟩
    have n := New.one (o := .lst xs) r1.sub hq
    exact p3.ok r1 n (.lst upd_same (d1.mono n.sub))
  · rw [if_neg hl] at hz; cases hz
/-! ### built-ins called -/
def CallSn (K : PySem.W.Frag) (cl : Cl) (r : List V → Hp → VK → Prop) (f : List D → Option D) : Prop :=
  ∀ ad F H xs ds z Q, Same F H → DenA K cl ad F xs ds → f ds = some z → (∀ v H' F', New F H F' H' → Den K cl ad F' v z → Q v H') → r xs H Q
def dCallB (f : List D → Option D) (te : ME (List D)) : ME D := eb te fun xs => eo (f xs)
theorem sn_callB {r : List V → Hp → VK → Prop} {f : List D → Option D} {K : PySem.W.Frag} {cl : Cl} (h : CallSn K cl r f) (ha : Sn K cl W (RA K cl) re te) : Sn K cl W (RD K cl) (tCB r re) (dCallB f te) := by
  intro ad σ H F s k Q rel p
  refine ha.bind rel p fun x d H1 F1 k1 _ r1 x1 d1 p1 => ?_
  obtain ⟨z, hz, p3⟩ := p1.eo
  exact h ad F1 H1 x d z Q r1.sub d1 hz fun v H' F' n dv => p3.ok r1 n dv
theorem u_callB {id : String} {x : Str} {p : Pos} {r : List V → Hp → VK → Prop} {f : List D → Option D} (hc : CallR X (.builtin id) r) (h : CallSn X.K (clOf X.mg) r f) (hg : Gl X x) (hm : X.mg x = none) (hv : bootBuiltins x = some (.builtin id)) (ha : UA X W re te (a :: es))
    (hn : x ≠ "__name__" := by decide) (hdb : (x == ("__debug__" : Str)) = false := by decide) (he : starEach (a :: es) X.env = (false, eval a X.env) :: starEach es X.env := by rfl) (hpl : (backTo pos (starEach es X.env)).any (·.1) = false := by rfl) :
    UE X W (tCB r re) (dCallB f te) (.Call (.Name x p) (a :: es) [] pos) :=
  ⟨pe_callB hc hg hm hv ha.pa hn hdb he hpl, sn_callB h ha.sn⟩
theorem u_callTy {T : String} {x : Str} {p : Pos} {r : List V → Hp → VK → Prop} {f : List D → Option D} (hc : CallR X (.type T) r) (h : CallSn X.K (clOf X.mg) r f) (hg : Gl X x) (hm : X.mg x = none) (hv : bootBuiltins x = some (.type T)) (ha : UA X W re te (a :: es))
    (hn : x ≠ "__name__" := by decide) (hdb : (x == ("__debug__" : Str)) = false := by decide) (he : starEach (a :: es) X.env = (false, eval a X.env) :: starEach es X.env := by rfl) (hpl : (backTo pos (starEach es X.env)).any (·.1) = false := by rfl) :
    UE X W (tCB r re) (dCallB f te) (.Call (.Name x p) (a :: es) [] pos) :=
  ⟨pe_callTy hc hg hm hv ha.pa hn hdb he hpl, sn_callB h ha.sn⟩
end
end G
namespace G
open PySem PySem.Spec PyProof.Rows L2
/-! ### statements -/
inductive RS where
  | nx (s : List Sl) (k : Sk) | brk (s : List Sl) (k : Sk) | ct (s : List Sl) (k : Sk)
  | ret (d : D) (k : Sk) | ex (c : Str) (fs : List (Str × D)) (s : List Sl) (k : Sk) | no
def MS := List Sl → Sk → RS
/-- an expression, then the slots -/
def sb {α : Type} (m : ME α) (f : α → MS) : MS := fun s k => match m s k with
  | .ok a k' => f a s k'
  | .ex c fs k' => .ex c fs s k'
  | .no => .no
def ss (a b : MS) : MS := fun s k => match a s k with
  | .nx s' k' => b s' k'
  | .brk s' k' => .brk s' k'
  | .ct s' k' => .ct s' k'
  | .ret d k' => .ret d k'
  | .ex c fs s' k' => .ex c fs s' k'
  | .no => .no
structure RelS (K : PySem.W.Frag) (cl : Cl) (ad : Ad) (H0 F0 : Hp) (k0 : Sk) (σ : L2.St) (H F : Hp) (s : List Sl) (k : Sk) : Prop where
  rel : Rel K cl ad σ H F s k
  ext : Ext ad k0 k F0 H0 F H
  fr : ∀ (i : Nat) (xs : D) (b : Addr), s[i]? = some (Sl.own xs) → σ[i]? = some (some (V.ref b)) → H0 b = none
def PostS (K : PySem.W.Frag) (cl : Cl) (W : WX) (ad : Ad) (H0 F0 : Hp) (k0 : Sk) (F : Hp) (r : RS) (E : Ends) : Prop :=
  match r with
  | .nx s' k' => ∀ σ' H' F', RelS K cl ad H0 F0 k0 σ' H' F' s' k' → Same F F' → E.nx σ' H'
  | .brk s' k' => ∀ σ' H' F', RelS K cl ad H0 F0 k0 σ' H' F' s' k' → Same F F' → E.bk σ' H'
  | .ct s' k' => ∀ σ' H' F', RelS K cl ad H0 F0 k0 σ' H' F' s' k' → Same F F' → E.ct σ' H'
  | .ret d k' => ∀ v σ' H' F' s', RelS K cl ad H0 F0 k0 σ' H' F' s' k' → Same F F' → Den K cl ad F' v d → E.rt v H'
  | .ex c fs s' k' => ∀ cls dd σ' H' F', RelS K cl ad H0 F0 k0 σ' H' F' s' k' → Same F F' → ExcIs K cl ad F' cls dd c fs → W cls dd σ' H'
  | .no => False
def SnS (K : PySem.W.Frag) (cl : Cl) (W : WX) (r : TS) (t : MS) : Prop :=
  ∀ ad H0 F0 k0 σ H F s k E, RelS K cl ad H0 F0 k0 σ H F s k → PostS K cl W ad H0 F0 k0 F (t s k) E → r E σ H
section
variable {K : PySem.W.Frag} {cl : Cl} {W : WX} {ad : Ad} {H0 F0 : Hp} {k0 : Sk} {σ : L2.St} {H F H1 F1 : Hp} {s : List Sl} {k k1 : Sk} {α β γ δ : Type}
theorem PostS.from {r : RS} {E : Ends} (e : Same F F1) (p : PostS K cl W ad H0 F0 k0 F r E) : PostS K cl W ad H0 F0 k0 F1 r E := by
  cases r with
  | nx s' k' => exact fun σ' H' F' r x => p σ' H' F' r (e.trans x)
  | brk s' k' => exact fun σ' H' F' r x => p σ' H' F' r (e.trans x)
  | ct s' k' => exact fun σ' H' F' r x => p σ' H' F' r (e.trans x)
  | ret d k' => exact fun v σ' H' F' s' r x => p v σ' H' F' s' r (e.trans x)
  | ex c fs s' k' => exact fun c dd σ' H' F' r x => p c dd σ' H' F' r (e.trans x)
  | no => exact p
theorem RelS.step (r : RelS K cl ad H0 F0 k0 σ H F s k) (r1 : Rel K cl ad σ H1 F1 s k1) (e : Ext ad k k1 F H F1 H1) : RelS K cl ad H0 F0 k0 σ H1 F1 s k1 :=
  ⟨r1, r.ext.trans e, r.fr⟩
/-- an expression first -/
theorem Sn.sbind {R : Ad → Hp → β → α → Prop} {r : L2.St → Hp → (β → Hp → Prop) → Prop} {t : ME α} {f : α → MS} {E : Ends} {G : β → Hp → Prop}
    (h : Sn K cl W R r t) (rel : RelS K cl ad H0 F0 k0 σ H F s k) (p : PostS K cl W ad H0 F0 k0 F (sb t f s k) E)
    (g : ∀ v d H1 F1 k1, t s k = .ok d k1 → RelS K cl ad H0 F0 k0 σ H1 F1 s k1 → Ext ad k k1 F H F1 H1 → R ad F1 v d → PostS K cl W ad H0 F0 k0 F1 (f d s k1) E → G v H1) : r σ H G := by
  refine h ad σ H F s k G rel.rel ?_
  unfold sb at p
  cases q : t s k with
  | ok d k1 =>
    rw [q] at p
    exact fun v H1 F1 r1 x1 d1 => g v d H1 F1 k1 q (rel.step r1 x1) x1 d1 (p.from x1.sub)
  | ex c fs k1 =>
    rw [q] at p
    exact fun cls dd H1 F1 r1 x1 d1 => p cls dd σ H1 F1 (rel.step r1 x1) x1.sub d1
  | no =>
    rw [q] at p
    exact p
theorem SnS.seq {r1 r2 : TS} {t1 t2 : MS} (h1 : SnS K cl W r1 t1) (h2 : SnS K cl W r2 t2) : SnS K cl W (tSeq r1 r2) (ss t1 t2) := by
  intro ad H0 F0 k0 σ H F s k E rel p
  refine h1 ad H0 F0 k0 σ H F s k _ rel ?_
  unfold ss at p
  cases q : t1 s k with
  | nx s' k' =>
    rw [q] at p
    exact fun σ' H' F' r x => h2 ad H0 F0 k0 σ' H' F' s' k' E r (p.from x)
  | brk s' k' => rw [q] at p; exact p
  | ct s' k' => rw [q] at p; exact p
  | ret d k' => rw [q] at p; exact p
  | ex c fs s' k' => rw [q] at p; exact p
  | no => rw [q] at p; exact p
end
structure US (X : Cx) (W : WX) (r : TS) (t : MS) (st : Stmt) : Prop where
  ps : PS X st r
  sn : SnS X.K (clOf X.mg) W r t
structure USs (X : Cx) (W : WX) (r : TS) (t : MS) (st : List Stmt) : Prop where
  ps : PSs X st r
  sn : SnS X.K (clOf X.mg) W r t
/-- a target: which slots it sets -/
def MG := D → List Sl → Option (List Sl)
def SnG (K : PySem.W.Frag) (cl : Cl) (is : List Nat) (g : TG) (f : MG) : Prop :=
  ∀ ad σ H F s k v d s' (Q : L2.St → Hp → Prop), Rel K cl ad σ H F s k → Den K cl ad F v d → f d s = some s' →
    (∀ σ', Rel K cl ad σ' H F s' k → σ'.length = σ.length → (∀ j : Nat, j ∉ is → σ'[j]? = σ[j]?) → (∀ (i : Nat) xs, s'[i]? = some (Sl.own xs) → s[i]? = some (Sl.own xs) ∧ σ'[i]? = σ[i]?) → Q σ' H) → g v σ H Q
structure UG (X : Cx) (is : List Nat) (g : TG) (f : MG) (tg : Expr) : Prop where
  pg : PG X tg g
  sn : SnG X.K (clOf X.mg) is g f
section
variable {K : PySem.W.Frag} {cl : Cl} {ad : Ad} {σ : L2.St} {H F : Hp} {s : List Sl} {k : Sk}
/-- a value is stored in slot i -/
theorem Rel.set (r : Rel K cl ad σ H F s k) (i : Nat) {v : V} {d : D} (hd : Den K cl ad F v d) : Rel K cl ad (σ.set i (some v)) H F (s.set i (.val d)) k where
  sub := r.sub
  len := by rw [List.length_set, List.length_set]; exact r.len
  val := fun j e h => by
    by_cases hj : i = j
    · subst hj
      by_cases hl : i < s.length
      · rw [List.getElem?_set_self hl] at h
        cases h
        exact ⟨v, List.getElem?_set_self (by rw [r.len]; exact hl), hd⟩
      · rw [List.getElem?_eq_none (by simpa using hl)] at h; cases h
    · rw [List.getElem?_set_ne hj] at h ⊢
      exact r.val j e h
  own := fun j xs h => by
    by_cases hj : i = j
    · subst hj
      by_cases hl : i < s.length
      · rw [List.getElem?_set_self hl] at h; cases h
      · rw [List.getElem?_eq_none (by simpa using hl)] at h; cases h
    · rw [List.getElem?_set_ne hj] at h ⊢
      exact r.own j xs h
  inj := fun a b xs ys c h1 h2 h3 h4 => by
    have na : i ≠ a := fun e => by
      subst e
      by_cases hl : i < s.length
      · rw [List.getElem?_set_self hl] at h1; cases h1
      · rw [List.getElem?_eq_none (by simpa using hl)] at h1; cases h1
    have nb : i ≠ b := fun e => by
      subst e
      by_cases hl : i < s.length
      · rw [List.getElem?_set_self hl] at h2; cases h2
      · rw [List.getElem?_eq_none (by simpa using hl)] at h2; cases h2
    rw [List.getElem?_set_ne na] at h1 h3
    rw [List.getElem?_set_ne nb] at h2 h4
    exact r.inj a b xs ys c h1 h2 h3 h4
  dk := r.dk
theorem own_set {i j : Nat} {xs : D} {d : D} (h : (s.set i (.val d))[j]? = some (Sl.own xs)) : i ≠ j ∧ s[j]? = some (Sl.own xs) := by
  have n : i ≠ j := fun e => by
    subst e
    by_cases hl : i < s.length
    · rw [List.getElem?_set_self hl] at h; cases h
    · rw [List.getElem?_eq_none (by simpa using hl)] at h; cases h
  rw [List.getElem?_set_ne n] at h
  exact ⟨n, h⟩
theorem RelS.set {H0 F0 : Hp} {k0 : Sk} (r : RelS K cl ad H0 F0 k0 σ H F s k) (i : Nat) {v : V} {d : D} (hd : Den K cl ad F v d) : RelS K cl ad H0 F0 k0 (σ.set i (some v)) H F (s.set i (.val d)) k :=
  ⟨r.rel.set i hd, r.ext, fun j xs b h1 h2 => by
    obtain ⟨n, h⟩ := own_set h1
    rw [List.getElem?_set_ne n] at h2
    exact r.fr j xs b h h2⟩
end
section
variable {X : Cx} {W : WX} {a b c e : Expr} {ra rb rc : TE} {ta tb tc : ME D} {pos : Pos} {r1 r2 : TS} {t1 t2 : MS} {st : Stmt} {rest : List Stmt} {qa : TT} {sa : ME Bool}
def sNx : MS := fun s k => .nx s k
theorem us_nil : USs X W tNext sNx [] := ⟨pss_nil, fun ad H0 F0 k0 σ H F s k E rel p => p σ H F rel (Same.refl _)⟩
theorem us_cons (h1 : US X W r1 t1 st) (h2 : USs X W r2 t2 rest) : USs X W (tSeq r1 r2) (ss t1 t2) (st :: rest) := ⟨pss_cons h1.ps h2.ps, h1.sn.seq h2.sn⟩
theorem us_one (h1 : US X W r1 t1 st) : USs X W r1 t1 [st] := ⟨pss_one h1.ps, h1.sn⟩
def sDrop (t : ME D) : MS := sb t fun _ => sNx
theorem us_expr (h : UE X W ra ta e) (hs : swapsWith e none pos.line X.env = pure false := by rfl) : US X W (tDrop ra) (sDrop ta) (.Expr e pos) :=
  ⟨ps_expr h.pe hs, fun ad H0 F0 k0 σ H F s k E rel p => h.sn.sbind rel p fun v d H1 F1 k1 _ r1 x1 d1 p1 => p1 σ H1 F1 r1 (Same.refl _)⟩
def sRet (t : ME D) : MS := sb t fun d => fun _ k => .ret d k
theorem us_ret (h : UE X W ra ta e) : US X W (tRet ra) (sRet ta) (.Return (some e) pos) :=
  ⟨ps_ret h.pe, fun ad H0 F0 k0 σ H F s k E rel p => h.sn.sbind rel p fun v d H1 F1 k1 _ r1 x1 d1 p1 => p1 v σ H1 F1 s r1 (Same.refl _) d1⟩
def sIf (c : ME Bool) (t u : MS) : MS := sb c fun b => if b = true then t else u
theorem us_if {as bs : List Stmt} (hc : UT X W qa sa c) (h1 : USs X W r1 t1 as) (h2 : USs X W r2 t2 bs) : US X W (tIfS qa r1 r2) (sIf sa t1 t2) (.If c as bs pos) := by
  refine ⟨ps_if hc.pt h1.ps h2.ps, fun ad H0 F0 k0 σ H F s k E rel p => hc.sn.sbind rel p fun v d H1 F1 k1 _ q1 x1 d1 p1 => ?_⟩
  cases d1
  cases v with
  | true => exact iteT (h1.sn ad H0 F0 k0 σ H1 F1 s k1 E q1 p1)
  | false => exact iteF (h2.sn ad H0 F0 k0 σ H1 F1 s k1 E q1 p1)
/-! ### targets, assignments -/
def mName (i : Nat) : MG := fun d s => some (s.set i (.val d))
theorem ug_name {i : Nat} {x : Str} (hN : X.N.Nodup) (hi : X.N[i]? = some x := by rfl) (hx : Loc X.env.scope x := by first | exact .inl rfl | exact .inr rfl) (hf : X.fn x = true ∨ X.env.scope.names.lookup x = some .local := by first | exact .inl rfl | exact .inr rfl) : UG X [i] (gName i) (mName i) (.Name x pos) := by
  refine ⟨pg_name hN hi hx hf, fun ad σ H F s k v d s' Q rel hd e q => ?_⟩
  cases e
  refine q _ (rel.set i hd) (List.length_set ..) (fun j hj => ?_) fun j xs h1 => ?_
  · exact List.getElem?_set_ne (fun e => hj (by rw [e]; exact List.mem_singleton_self _))
  · obtain ⟨n, h⟩ := own_set h1
    exact ⟨h, List.getElem?_set_ne n⟩
def MGs := List D → List Sl → Option (List Sl)
def SnGs (K : PySem.W.Frag) (cl : Cl) (is : List Nat) (g : TGs) (f : MGs) : Prop :=
  ∀ ad σ H F s k v d s' (Q : L2.St → Hp → Prop), Rel K cl ad σ H F s k → DenA K cl ad F v d → f d s = some s' →
    (∀ σ', Rel K cl ad σ' H F s' k → σ'.length = σ.length → (∀ j : Nat, j ∉ is → σ'[j]? = σ[j]?) → (∀ (i : Nat) xs, s'[i]? = some (Sl.own xs) → s[i]? = some (Sl.own xs) ∧ σ'[i]? = σ[i]?) → Q σ' H) → g v σ H Q
structure UGs (X : Cx) (is : List Nat) (g : TGs) (f : MGs) (tg : List Expr) : Prop where
  pg : PGs X tg g
  sn : SnGs X.K (clOf X.mg) is g f
def mNil : MGs := fun d s => match d with
  | [] => some s
  | _ => none
def mCons (f : MG) (g : MGs) : MGs := fun d s => match d with
  | x :: r => match f x s with
    | some s' => g r s'
    | none => none
  | [] => none
theorem ugs_nil : UGs X [] gNil mNil [] := by
  refine ⟨pgs_nil, fun ad σ H F s k v d s' Q rel hd e q => ?_⟩
  cases hd with
  | nil => cases e; exact ⟨rfl, q σ rel rfl (fun _ _ => rfl) fun _ _ h => ⟨h, rfl⟩⟩
  | cons _ _ => cases e
theorem ugs_cons {is js : List Nat} {g : TG} {gs : TGs} {f : MG} {fs : MGs} {es : List Expr} (h1 : UG X is g f e) (h2 : UGs X js gs fs es)
    (hs : (assignEach (e :: es) X.env).map (·.2) = assign e X.env :: (assignEach es X.env).map (·.2) := by rfl) : UGs X (is ++ js) (gCons g gs) (mCons f fs) (e :: es) := by
  refine ⟨pgs_cons h1.pg h2.pg hs, fun ad σ H F s k v d s' Q rel hd e q => ?_⟩
  cases hd with
  | nil => cases e
  | @cons v vs d ds hx hr =>
    refine ⟨v, vs, rfl, ?_⟩
    cases z : f d s with
    | none => simp only [mCons, z] at e; cases e
    | some s1 =>
      simp only [mCons, z] at e
      refine h1.sn ad σ H F s k v d s1 _ rel hx z fun σ1 r1 l1 k1 o1 => ?_
      refine h2.sn ad σ1 H F s1 k vs ds s' _ r1 hr e fun σ2 r2 l2 k2 o2 => ?_
      refine q σ2 r2 (l2.trans l1) (fun j hj => ?_) fun j xs h => ?_
      · rw [k2 j (fun m => hj (List.mem_append_right _ m)), k1 j (fun m => hj (List.mem_append_left _ m))]
      · obtain ⟨a1, a2⟩ := o2 j xs h
        obtain ⟨b1, b2⟩ := o1 j xs a1
        exact ⟨b1, a2.trans b2⟩
def mTup (n : Nat) (f : MGs) : MG := fun d s => match d with
  | .tup xs => if xs.length = n then f xs s else none
  | _ => none
theorem ug_tup {is : List Nat} {gs : TGs} {fs : MGs} {es : List Expr} {kk : Nat} {n : Nat} (hc : X.calm = true) (h : UGs X is gs fs es) (hn : (assignEach es X.env).length = n := by rfl) (hst : (assignEach es X.env).findIdx? (·.1) = none := by rfl) : UG X is (gTup X.K n gs) (mTup n fs) (.Tuple es kk pos) := by
  refine ⟨pg_tup hc h.pg hn hst, fun ad σ H F s k v d s' Q rel hd e q => ?_⟩
  cases hd with
  | tup hs ha =>
    rename_i xs ds
    by_cases hl : ds.length = n
    · simp only [mTup, if_pos hl] at e
      exact ⟨_, _, rfl, tup_same rel.sub hs, ha.length.trans hl, h.sn ad σ H F s k _ _ s' Q rel ha e q⟩
    · simp only [mTup, if_neg hl] at e; cases e
  | _ => cases e
def sAsg (t : ME D) (g : MG) : MS := sb t fun d => fun s k => match g d s with
  | some s' => .nx s' k
  | none => .no
theorem sn_asg {is : List Nat} {g : TG} {f : MG} {K : PySem.W.Frag} {cl : Cl} (h : Sn K cl W (RD K cl) ra ta) (hg : SnG K cl is g f) : SnS K cl W (tAsg ra g) (sAsg ta f) := by
  intro ad H0 F0 k0 σ H F s k E rel p
  refine h.sbind rel p fun v d H1 F1 k1 _ q1 x1 d1 p1 => ?_
  cases z : f d s with
  | none => simp only [z] at p1; exact False.elim p1
  | some s' =>
    simp only [z] at p1
    refine hg ad σ H1 F1 s k1 v d s' _ q1.rel d1 z fun σ' r' l' k' o' => ?_
    refine p1 σ' H1 F1 ⟨r', q1.ext, fun i xs b h1 h2 => ?_⟩ (Same.refl _)
    obtain ⟨a1, a2⟩ := o' i xs h1
    exact q1.fr i xs b a1 (a2 ▸ h2)
/-- x = e -/
theorem us_set {i : Nat} {x : Str} {pos' : Pos} (hN : X.N.Nodup) (h : UE X W ra ta e) (hi : X.N[i]? = some x := by rfl) (hx : Loc X.env.scope x := by first | exact .inl rfl | exact .inr rfl) (hs : swapsWith e (some (.Name x pos')) pos.line X.env = pure false := by rfl)
    (hf : X.fn x = true ∨ X.env.scope.names.lookup x = some .local := by first | exact .inl rfl | exact .inr rfl) : US X W (tAsg ra (gName i)) (sAsg ta (mName i)) (.Assign [.Name x pos'] e pos) := by
  refine ⟨ps_set hN hi hx h.pe hs hf, sn_asg (is := [i]) h.sn fun ad σ H F s k v d s' Q rel hd e q => ?_⟩
  cases e
  refine q _ (rel.set i hd) (List.length_set ..) (fun j hj => ?_) fun j xs h1 => ?_
  · exact List.getElem?_set_ne (fun e => hj (by rw [e]; exact List.mem_singleton_self _))
  · obtain ⟨n, h⟩ := own_set h1
    exact ⟨h, List.getElem?_set_ne n⟩
/-- a, b = x, y -/
def sPar (i j : Nat) (te : ME (List D)) : MS := sb te fun ds => fun s k => match ds with
  | [x, y] => .nx ((s.set i (.val x)).set j (.val y)) k
  | _ => .no
theorem us_par {i j : Nat} {x y : Str} {ea eb' : Expr} {re : TA} {te : ME (List D)} {px py pt : Pos} {kt k2 : Nat} {pt2 : Pos} (hc : X.calm = true) (hN : X.N.Nodup) (h : UA X W re te [ea, eb']) (hi : X.N[i]? = some x := by rfl) (hj : X.N[j]? = some y := by rfl) (hij : i ≠ j := by decide)
    (hx : X.env.scope.names.lookup x = some .local := by rfl) (hy : X.env.scope.names.lookup y = some .local := by rfl)
    (hw : swappedStores [.Tuple [.Name x px, .Name y py] kt pt] (.Tuple [ea, eb'] k2 pt2) X.env = pure (some [x, y]) := by rfl)
    (hs : swapsWithSole [.Tuple [.Name x px, .Name y py] kt pt] (.Tuple [ea, eb'] k2 pt2) pos.line X.env = pure false := by rfl) :
    US X W (tPar i j re) (sPar i j te) (.Assign [.Tuple [.Name x px, .Name y py] kt pt] (.Tuple [ea, eb'] k2 pt2) pos) := by
  refine ⟨ps_par hc hN hi hj hij hx hy h.pa hw hs, fun ad H0 F0 k0 σ H F s k E rel p => h.sn.sbind rel p fun v d H1 F1 k1 _ q1 x1 d1 p1 => ?_⟩
  cases d1 with
  | nil => exact False.elim p1
  | cons h1 r1 =>
    cases r1 with
    | nil => exact False.elim p1
    | cons h2 r2 =>
      cases r2 with
      | cons _ _ => exact False.elim p1
      | nil => exact ⟨_, _, rfl, p1 _ H1 F1 ((q1.set i h1).set j h2) (Same.refl _)⟩
end
end G
namespace G
open PySem PySem.Spec PyProof.Rows L2
/-! ### what is walked -/
def ItOk (K : PySem.W.Frag) (cl : Cl) (ad : Ad) (J : It) (F : Hp) (ds : List D) : Prop :=
  ∀ H2 F2, Same F F2 → Same F2 H2 → (∀ (i : Nat) d, ds[i]? = some d → J.go i H2 ∧ ∀ x H3, J.yld i H2 x H3 → ∃ F3, New F2 H2 F3 H3 ∧ Den K cl ad F3 x d) ∧ J.stop ds.length H2
abbrev RI (K : PySem.W.Frag) (cl : Cl) : Ad → Hp → It → List D → Prop := fun ad F J ds => ItOk K cl ad J F ds
structure UI (X : Cx) (W : WX) (tg : Expr) (wi : TI) (t : ME (List D)) (iter : Expr) : Prop where
  pi : PI X tg iter wi
  sn : Sn X.K (clOf X.mg) W (RI X.K (clOf X.mg)) wi t
/-- a text of one sign -/
abbrev sgn (c : Nat) : Str := ⟨#[c]⟩
def signs (x : Str) : List D := x.cps.toList.map fun c => D.str (sgn c)
def itemsOf : D → Option (List D)
  | .lst xs => some xs
  | .tup xs => some xs
  | .str x => some (signs x)
  | _ => none
def iAny (K : PySem.W.Frag) (tl : TE) : TI := fun σ H R => tl σ H fun x H1 => (∃ a, x = .ref a ∧ (∃ xs, SqL K H1 a xs) ∧ R (Itl K a) H1) ∨ (∃ a, x = .ref a ∧ (∃ xs, SqT K H1 a xs) ∧ R (Itt K a) H1) ∨ ∃ z, x = .str z ∧ R (Its z) H1
section
variable {X : Cx} {W : WX} {tg e : Expr} {ra : TE} {ta : ME D} {pos : Pos}
theorem pi_any {tl : TE} (hl : PE X e tl) : PI X tg e (iAny X.K tl) := by
  refine ⟨fun pins s σ H R I h => ?_⟩
  refine thn (hl.run pins s σ H _ I h) fun v s1 ⟨x, H1, I1, r1, q1⟩ => ?_
  rcases q1 with ⟨a, e, ⟨xs, hq⟩, q⟩ | ⟨a, e, ⟨xs, hq⟩, q⟩ | ⟨z, e, q⟩
  · subst e
    cases r1
    obtain ⟨its, rv, p, hz⟩ := I1.list hq
    exact wpAny_pyIter_list p.isList (pi_one (tk := s1.toks) I1 _ (turn_list a _) ⟨_, Heap.get?_push_size _ rfl, rfl, rfl⟩ q)
  · subst e
    cases r1
    obtain ⟨its, rv, p, hz⟩ := I1.tuple hq
    exact wpAny_pyIter_tuple (show s1.heap.IsTuple a its.toArray from p) (pi_one (tk := s1.toks) I1 _ (turn_tuple a _) ⟨_, Heap.get?_push_size _ rfl, rfl, rfl⟩ q)
  · subst e
    obtain ⟨t, rfl⟩ := r1
    cases ha : z.cps.all (· < 128)
    · exact wpAny_pyIter_wide ha (pi_one (tk := s1.toks) I1 _ (turn_str _ z t "str_iterator" (.inr rfl)) ⟨_, Heap.get?_push_size _ rfl, rfl, rfl⟩ q)
    · exact wpAny_pyIter_ascii ha (pi_one (tk := s1.toks) I1 _ (turn_str _ z t "str_ascii_iterator" (.inl rfl)) ⟨_, Heap.get?_push_size _ rfl, rfl, rfl⟩ q)
def dItems (t : ME D) : ME (List D) := eb t fun d => eo (itemsOf d)
section
variable {K : PySem.W.Frag} {cl : Cl} {ad : Ad} {F : Hp}
theorem itOk_list {a : Addr} {xs : List V} {ds : List D} (h : SqL K F a xs) (hd : DenA K cl ad F xs ds) : ItOk K cl ad (Itl K a) F ds := fun H2 F2 e1 e2 =>
  ⟨fun i d q => by
    obtain ⟨x, h1, h2⟩ := hd.get q
    refine ⟨⟨xs, x, (e1.trans e2).seq h, h1⟩, fun y H3 ⟨e, z⟩ => ?_⟩
    subst e
    have := (z xs ((e1.trans e2).seq h)).symm.trans h1
    cases this
    exact ⟨F2, New.refl e2, h2.mono e1⟩,
  ⟨xs, (e1.trans e2).seq h, Nat.le_of_eq hd.length⟩⟩
theorem itOk_tup {a : Addr} {xs : List V} {ds : List D} (h : SqT K F a xs) (hd : DenA K cl ad F xs ds) : ItOk K cl ad (Itt K a) F ds := fun H2 F2 e1 e2 =>
  ⟨fun i d q => by
    obtain ⟨x, h1, h2⟩ := hd.get q
    refine ⟨⟨xs, x, sqT_same (e1.trans e2) h, h1⟩, fun y H3 ⟨e, z⟩ => ?_⟩
    subst e
    have := (z xs (sqT_same (e1.trans e2) h)).symm.trans h1
    cases this
    exact ⟨F2, New.refl e2, h2.mono e1⟩,
  ⟨xs, sqT_same (e1.trans e2) h, Nat.le_of_eq hd.length⟩⟩
theorem itOk_str {x : Str} : ItOk K cl ad (Its x) F (signs x) := fun H2 F2 e1 e2 =>
  ⟨fun i d q => by
    unfold signs at q
    rw [List.getElem?_map] at q
    cases z : x.cps.toList[i]? with
    | none => rw [z] at q; cases q
    | some c =>
      rw [z] at q
      cases q
      have hi : i < x.cps.toList.length := (List.getElem?_eq_some_iff.mp z).1
      refine ⟨show i < x.cps.size by simpa using hi, fun y H3 ⟨e, c', h1, h2⟩ => ?_⟩
      subst e h2
      have : x.cps.toList[i]? = some c' := by rw [Array.getElem?_toList]; exact h1
      rw [z] at this
      cases this
      exact ⟨F2, New.refl e2, .str _⟩,
  by
    show x.cps.size ≤ (signs x).length
    unfold signs
    rw [List.length_map, Array.length_toList]
    exact Nat.le_refl _⟩
theorem itOk_rng {lo : Int} {n : Nat} : ItOk K cl ad (Itr lo n) F ((List.range n).map fun i => D.int (lo + (i : Nat))) := fun H2 F2 e1 e2 =>
  ⟨fun i d q => (by
    rw [List.getElem?_map] at q
    by_cases hi : i < n
    · rw [List.getElem?_range hi] at q
      cases q
      refine ⟨hi, fun y H3 ⟨e, z⟩ => ?_⟩
      subst e z
      exact ⟨F2, New.refl e2, .int _⟩
    · rw [List.getElem?_eq_none (by simpa using hi)] at q; cases q),
  by
    show n ≤ _
    rw [List.length_map, List.length_range]
    exact Nat.le_refl _⟩
end
theorem ui_any (h : UE X W ra ta e) : UI X W tg (iAny X.K ra) (dItems ta) e := by
  refine ⟨pi_any h.pe, fun ad σ H F s k Q rel p => ?_⟩
  refine h.sn.bind rel p fun x d H1 F1 k1 _ r1 x1 d1 p1 => ?_
  obtain ⟨z, hz, p3⟩ := p1.eo
  cases d1 with
  | lst hs ha => cases hz; exact .inl ⟨_, rfl, ⟨_, r1.sub.seq (SqL.of hs)⟩, p3.ok0 r1 (itOk_list (SqL.of hs) ha)⟩
  | tup hs ha => cases hz; exact .inr (.inl ⟨_, rfl, ⟨_, tup_same r1.sub hs⟩, p3.ok0 r1 (itOk_tup (.of hs) ha)⟩)
  | str y => cases hz; exact .inr (.inr ⟨_, rfl, p3.ok0 r1 itOk_str⟩)
  | _ => cases hz
/-- numbers that a range takes -/
def okI (j : Int) : Bool := decide (-(2 ^ 62) ≤ j) && decide (j < 2 ^ 62)
theorem okI_iff {j : Int} : okI j = true ↔ (-(2 ^ 62) ≤ j ∧ j < 2 ^ 62) := by
  unfold okI
  rw [Bool.and_eq_true, decide_eq_true_eq, decide_eq_true_eq]
def rng1 : List D → Option (List D)
  | [.int j] => if okI j = true then some ((List.range j.toNat).map fun i => D.int (0 + (i : Nat))) else none
  | _ => none
variable {a b : Expr} {re : TA} {te : ME (List D)}
theorem ui_rng1 {p : Pos} (hg : Gl X "range") (hm : X.mg "range" = none) (h : UA X W re te [a]) (hs : starEach [a] X.env = [(false, eval a X.env)] := by rfl) :
    UI X W tg (iRng1 re) (eb te fun ds => eo (rng1 ds)) (.Call (.Name "range" p) [a] [] pos) := by
  refine ⟨pi_range1 hg hm h.pa hs, fun ad σ H F s k Q rel p => ?_⟩
  refine h.sn.bind rel p fun x d H1 F1 k1 _ r1 x1 d1 p1 => ?_
  obtain ⟨z, hz, p3⟩ := p1.eo
  cases d1 with
  | nil => cases hz
  | cons h1 r2 =>
    cases r2 with
    | cons _ _ => cases h1 <;> cases hz
    | nil =>
      cases h1 with
      | int j =>
        unfold rng1 at hz
        by_cases c : okI j = true
        · simp only [if_pos c] at hz
          cases hz
          obtain ⟨c1, c2⟩ := okI_iff.mp c
          exact ⟨j, rfl, c1, c2, p3.ok0 r1 itOk_rng⟩
        · simp only [if_neg c] at hz; cases hz
      | _ => cases hz
/-! ### for -/
def loopS (g : MG) (body : MS) : List D → MS
  | [] => fun s k => .nx s k
  | d :: ds => fun s k => match g d s with
    | none => .no
    | some s1 => match body s1 k with
      | .nx s' k' => loopS g body ds s' k'
      | .ct s' k' => loopS g body ds s' k'
      | .brk s' k' => .nx s' k'
      | .ret d k' => .ret d k'
      | .ex c fs s' k' => .ex c fs s' k'
      | .no => .no
def sFor (ti : ME (List D)) (g : MG) (body : MS) : MS := sb ti fun ds => loopS g body ds
theorem RelS.new {K : PySem.W.Frag} {cl : Cl} {ad : Ad} {H0 F0 H F H' F' : Hp} {k0 k : Sk} {σ : L2.St} {s : List Sl} (r : RelS K cl ad H0 F0 k0 σ H F s k) (n : New F H F' H') : RelS K cl ad H0 F0 k0 σ H' F' s k :=
  r.step (r.rel.new n) n.ext
theorem us_for {is : List Nat} {iter : Expr} {body : List Stmt} {wi : TI} {ti : ME (List D)} {g : TG} {f : MG} {tb : TS} {db : MS} (hpass : PassesOwn (model X.prog X.w) X.A X.env X.xe) (hc : X.calm = true) (hi : UI X W tg wi ti iter) (hg : UG X is g f tg) (hb : USs X W tb db body)
    (hs : ∀ x, foldedSetIterable iter X.env x = pure x := by intro _; rfl) : US X W (tFor wi g tb) (sFor ti f db) (.For tg iter body [] pos) := by
  refine ⟨ps_for hpass hc hi.pi hg.pg hb.ps hs, fun ad H0 F0 k0 σ H F s k E rel p => hi.sn.sbind rel p fun J ds H1 F1 k1 _ q1 x1 d1 p1 => ?_⟩
  refine ⟨fun i m σ H => m = ds.length - i ∧ i ≤ ds.length ∧ ∃ F s k, RelS X.K (clOf X.mg) ad H0 F0 k0 σ H F s k ∧ Same F1 F ∧ PostS X.K (clOf X.mg) W ad H0 F0 k0 F (loopS f db (ds.drop i) s k) E,
    ⟨ds.length, by simp, Nat.zero_le _, F1, s, k1, q1, Same.refl _, p1⟩, ?_⟩
  rintro i m σ H ⟨rfl, hi', F2, s2, k2, r2, e2, p2⟩
  obtain ⟨go, stop⟩ := d1 H F2 e2 r2.rel.sub
  by_cases hlt : i < ds.length
  · have hd : ds[i]? = some ds[i] := List.getElem?_eq_getElem hlt
    have hdrop : ds.drop i = ds[i] :: ds.drop (i + 1) := List.drop_eq_getElem_cons hlt
    obtain ⟨g1, g2⟩ := go i _ hd
    rw [hdrop] at p2
    refine .inr ⟨g1, fun σ' H' => ∃ F s k, RelS X.K (clOf X.mg) ad H0 F0 k0 σ' H' F s k ∧ Same F1 F ∧ PostS X.K (clOf X.mg) W ad H0 F0 k0 F (loopS f db (ds.drop (i + 1)) s k) E, fun σ' H' q => ⟨ds.length - (i + 1), by omega, rfl, hlt, q⟩, fun x H' y => ?_⟩
    obtain ⟨F3, n3, d3⟩ := g2 x H' y
    have r3 := r2.new n3
    simp only [loopS] at p2
    cases z : f ds[i] s2 with
    | none => rw [z] at p2; exact False.elim p2
    | some s3 =>
      rw [z] at p2
      refine hg.sn ad σ H' F3 s2 k2 x ds[i] s3 _ r3.rel d3 z fun σ' r' l' k' o' => ?_
      have r4 : RelS X.K (clOf X.mg) ad H0 F0 k0 σ' H' F3 s3 k2 := ⟨r', r3.ext, fun i xs b h1 h2 => by
        obtain ⟨a1, a2⟩ := o' i xs h1
        exact r3.fr i xs b a1 (a2 ▸ h2)⟩
      have p3 := PostS.from (F1 := F3) n3.sub p2
      refine hb.sn ad H0 F0 k0 σ' H' F3 s3 k2 _ r4 ?_
      dsimp only at p3
      cases w : db s3 k2 with
      | nx s' k' => rw [w] at p3; exact fun σ' H' F' r x => ⟨F', s', k', r, (e2.trans n3.sub).trans x, p3.from x⟩
      | ct s' k' => rw [w] at p3; exact fun σ' H' F' r x => ⟨F', s', k', r, (e2.trans n3.sub).trans x, p3.from x⟩
      | brk s' k' => rw [w] at p3; exact fun σ' H' F' r x => p3 σ' H' F' r x
      | ret d k' => rw [w] at p3; exact p3
      | ex c fs s' k' => rw [w] at p3; exact p3
      | no => rw [w] at p3; exact p3
  · have e : i = ds.length := by omega
    subst e
    rw [List.drop_length] at p2
    exact .inl ⟨stop, p2 σ H F2 r2 (Same.refl _)⟩
/-! ### comprehensions -/
def wipeS (s : List Sl) : List Nat → List Sl
  | [] => s
  | v :: vs => (wipeS s vs).set v .emp
def lcL (g : MG) (tt : ME Bool) (te : ME D) (s0 : List Sl) : Nat → List D → Sk → RE (List D)
  | _, [], k => .ok [] k
  | n, d :: ds, k => match g d s0 with
    | none => .no
    | some s1 => match tt s1 k with
      | .ok true k1 => match te s1 k1 with
        | .ok y k2 => if n < sizeLine then (match lcL g tt te s0 (n + 1) ds k2 with
          | .ok ys k3 => .ok (y :: ys) k3
          | .ex c fs k3 => .ex c fs k3
          | .no => .no) else .no
        | _ => .no
      | .ok false k1 => lcL g tt te s0 n ds k1
      | _ => .no
def dLc (ti : ME (List D)) (g : MG) (tt : ME Bool) (te : ME D) (vs : List Nat) : ME D := eb ti fun ds => fun s k => match lcL g tt te (wipeS s vs) 0 ds k with
  | .ok ys k' => .ok (.lst ys) k'
  | .ex _ _ _ => .no
  | .no => .no
abbrev W0 : WX := fun _ _ _ _ => False
structure UTs (X : Cx) (W : WX) (r : TT) (t : ME Bool) (es : List Expr) : Prop where
  pt : PTs X es r
  sn : Sn X.K (clOf X.mg) W RB r t
theorem uts_nil : UTs X W tYes (ep true) [] := ⟨pts_nil, fun ad σ H F s k Q rel p => p.ok0 (a := true) rel rfl⟩
theorem uts_one {r : TT} {t : ME Bool} (h : UT X W r t e) : UTs X W r t [e] := ⟨pts_one h.pt, h.sn⟩
section
variable {K : PySem.W.Frag} {cl : Cl} {ad : Ad} {σ : L2.St} {H F H' F' : Hp} {s : List Sl} {k k' : Sk}
theorem wipeS_len : ∀ vs : List Nat, (wipeS s vs).length = s.length
  | [] => rfl
  | v :: vs => by unfold wipeS; rw [List.length_set, wipeS_len vs]
theorem wipeS_some {i : Nat} {x : Sl} (hx : x ≠ .emp) : ∀ {vs : List Nat}, (wipeS s vs)[i]? = some x → s[i]? = some x ∧ i ∉ vs
  | [], h => ⟨h, by simp⟩
  | v :: vs, h => by
    unfold wipeS at h
    by_cases hi : v = i
    · subst hi
      by_cases hv : v < (wipeS s vs).length
      · rw [List.getElem?_set_self hv] at h; cases h; exact absurd rfl hx
      · rw [List.getElem?_eq_none (by simpa using hv)] at h; cases h
    · rw [List.getElem?_set_ne hi] at h
      obtain ⟨h1, h2⟩ := wipeS_some hx h
      exact ⟨h1, by simp only [List.mem_cons, not_or]; exact ⟨fun e => hi e.symm, h2⟩⟩
theorem Rel.wipe (r : Rel K cl ad σ H F s k) (vs : List Nat) : Rel K cl ad (L2.wipe σ vs) H F (wipeS s vs) k where
  sub := r.sub
  len := by rw [wipe_length, wipeS_len]; exact r.len
  val := fun i d h => by
    obtain ⟨h1, h2⟩ := wipeS_some (by intro z; cases z) h
    rw [wipe_out h2]
    exact r.val i d h1
  own := fun i d h => by
    obtain ⟨h1, h2⟩ := wipeS_some (by intro z; cases z) h
    rw [wipe_out h2]
    exact r.own i d h1
  inj := fun i j xs ys b h1 h2 h3 h4 => by
    obtain ⟨a1, a2⟩ := wipeS_some (by intro z; cases z) h1
    obtain ⟨b1, b2⟩ := wipeS_some (by intro z; cases z) h2
    rw [wipe_out a2] at h3
    rw [wipe_out b2] at h4
    exact r.inj i j xs ys b a1 b1 h3 h4
  dk := r.dk
theorem Rel.extd (r : Rel K cl ad σ H F s k) (e : Ext ad k k' F H F' H') (sb : Same F' H') (dk : KOk K cl ad H' F' k') : Rel K cl ad σ H' F' s k' where
  sub := sb
  len := r.len
  val := fun i d h => let ⟨v, h1, h2⟩ := r.val i d h; ⟨v, h1, h2.mono e.sub⟩
  own := fun i xs h => by
    obtain ⟨b, vs, h1, h2, h3, h4, h5⟩ := r.own i xs h
    exact ⟨b, vs, h1, e.keep _ _ h2 h4, (e.nofz b _ h2 h5.nt h3).1, h4.sh e.some, h5.mono e.sub⟩
  inj := r.inj
  dk := dk
end
theorem wipe_get {σ : L2.St} {i : Nat} : ∀ {vs : List Nat}, i ∈ vs → i < σ.length → (L2.wipe σ vs)[i]? = some none
  | [], h, _ => nomatch h
  | v :: vs, h, hl => by
    unfold L2.wipe
    by_cases hi : v = i
    · subst hi
      rw [List.getElem?_set_self (by rw [wipe_length]; exact hl)]
    · rw [List.getElem?_set_ne hi]
      rcases List.mem_cons.mp h with e | e
      · exact absurd e.symm hi
      · exact wipe_get e hl
theorem wipe_eq {σ τ : L2.St} {vs : List Nat} (hl : τ.length = σ.length) (h : ∀ j : Nat, j ∉ vs → τ[j]? = (L2.wipe σ vs)[j]?) : L2.wipe τ vs = L2.wipe σ vs := by
  apply List.ext_getElem?
  intro i
  by_cases hi : i ∈ vs
  · by_cases hb : i < σ.length
    · rw [wipe_get hi hb, wipe_get hi (by omega)]
    · rw [List.getElem?_eq_none (by rw [wipe_length]; omega), List.getElem?_eq_none (by rw [wipe_length]; omega)]
  · rw [wipe_out hi, h i hi]
theorem Ext.upd {ad : Ad} {k k1 : Sk} {F H F1 H1 : Hp} {p : Addr} {o : HO} (e : Ext ad k k1 F H F1 H1) (hp : H p = none) : Ext ad k k1 F H F1 (upd H1 p o) :=
  ⟨e.some, e.sub, fun b u h n => by rw [upd_ne (ne_of_none h hp)]; exact e.keep b u h n, fun b h => by
    have : b ≠ p := fun z => h (z ▸ hp)
    rw [upd_ne this]; exact e.there b h, e.nofz.old hp⟩
theorem same_upd' {F H : Hp} {p : Addr} {o : HO} (h : Same F H) (hp : F p = none) : Same F (upd H p o) := fun b u e => by
  rw [upd_ne (ne_of_none e hp)]; exact h b u e
theorem KOk.frz {K : PySem.W.Frag} {cl : Cl} {ad : Ad} {H F : Hp} {k : Sk} {p : Addr} {o : HO} (h : KOk K cl ad H F k) (hp : Fre ad k p) (hF : F p = none) : KOk K cl ad H (L2.upd F p o) k := by
  have sF : Same F (L2.upd F p o) := fun b u e => by rw [upd_ne (ne_of_none e hF)]; exact e
  refine ⟨fun d e => ?_, fun c fs e => ?_⟩
  · obtain ⟨h1, h2, h3, h4, h5⟩ := h.d d e
    have n := hp.1 (by rw [e]; rfl)
    exact ⟨by rw [upd_ne n.1.symm]; exact h1, by rw [upd_ne n.2.symm]; exact h2, h3, h4, h5⟩
  · obtain ⟨h1, C, dx, ws, h2, h3, h4⟩ := h.m c fs e
    have n := hp.2 (by rw [e]; rfl)
    exact ⟨by rw [upd_ne n.symm]; exact h1, C, dx, ws, h2, h3, h4.mono sF⟩
/-- what stands at a turn's start, of a list D that is being made; H1, F1, k1: ahead of D -/
structure Mk (K : PySem.W.Frag) (cl : Cl) (ad : Ad) (H1 F1 : Hp) (k1 : Sk) (D : Addr) (H F : Hp) (k : Sk) (acc : List V) (ds : List G.D) : Prop where
  ext : Ext ad k1 k F1 H1 F H
  sub : Same F H
  dk : KOk K cl ad H F k
  nw : H1 D = none
  out : F D = none
  at_ : H D = some (.lst acc)
  den : DenA K cl ad F acc ds
section
variable {K : PySem.W.Frag} {cl : Cl} {ad : Ad} {σ : L2.St} {H1 F1 H F H' F' : Hp} {s : List Sl} {k1 k k' : Sk} {D : Addr} {acc : List V} {ds : List G.D}
theorem Mk.rel (m : Mk K cl ad H1 F1 k1 D H F k acc ds) (r : Rel K cl ad σ H1 F1 s k1) : Rel K cl ad σ H F s k := r.extd m.ext m.sub m.dk
theorem Mk.notDeck (m : Mk K cl ad H1 F1 k1 D H F k acc ds) (r : Rel K cl ad σ H1 F1 s k1) : Fre ad k D := (r.dk.fre m.nw).sh m.ext.some
theorem Mk.go (m : Mk K cl ad H1 F1 k1 D H F k acc ds) (r : Rel K cl ad σ H1 F1 s k1) (e : Ext ad k k' F H F' H') (sb : Same F' H') (dk : KOk K cl ad H' F' k') : Mk K cl ad H1 F1 k1 D H' F' k' acc ds :=
  ⟨m.ext.trans e, sb, dk, m.nw, (e.nofz D _ m.at_ (fun _ z => nomatch z) m.out).1, e.keep D _ m.at_ (m.notDeck r), m.den.mono e.sub⟩
theorem Mk.app (m : Mk K cl ad H1 F1 k1 D H F k acc ds) (r : Rel K cl ad σ H1 F1 s k1) {y : V} {d : G.D} (hd : Den K cl ad F y d) : Mk K cl ad H1 F1 k1 D (upd H D (.lst (acc ++ [y]))) F k (acc ++ [y]) (ds ++ [d]) :=
  ⟨m.ext.upd m.nw, same_upd' m.sub m.out, m.dk.upd (m.notDeck r), m.nw, m.out, upd_same, m.den.append (.cons hd .nil)⟩
theorem Mk.end_ (m : Mk K cl ad H1 F1 k1 D H F k acc ds) (r : Rel K cl ad σ H1 F1 s k1) : ∃ F', Rel K cl ad σ H F' s k ∧ Ext ad k1 k F1 H1 F' H ∧ Den K cl ad F' (.ref D) (.lst ds) := by
  have sF : Same F (upd F D (.lst acc)) := fun b u e => by rw [upd_ne (ne_of_none e m.out)]; exact e
  have sH : Same (upd F D (.lst acc)) H := fun b u e => by
    by_cases hb : b = D
    · subst hb; rw [upd_same] at e; cases e; exact m.at_
    · rw [upd_ne hb] at e; exact m.sub b u e
  have ex : Ext ad k1 k F1 H1 (upd F D (.lst acc)) H := ⟨m.ext.some, m.ext.sub.trans sF, m.ext.keep, m.ext.there, m.ext.nofz.frz m.nw⟩
  exact ⟨upd F D (.lst acc), r.extd ex sH (m.dk.frz (m.notDeck r) m.out), ex, .lst upd_same (m.den.mono sF)⟩
theorem Mk.new (r : Rel K cl ad σ H1 F1 s k1) (hD : H1 D = none) : Mk K cl ad H1 F1 k1 D (upd H1 D (.lst [])) F1 k1 [] [] := by
  have hF : F1 D = none := r.sub.free hD
  exact ⟨Ext.refl.upd hD, same_upd' r.sub hF, r.dk.upd (r.dk.fre hD), hD, hF, upd_same, .nil⟩
end
/-- the rest of a comprehension's items, behind those that are there -/
def more (ds : List D) : RE (List D) → RE D
  | .ok ys k => .ok (.lst (ds ++ ys)) k
  | .ex _ _ _ => .no
  | .no => .no
theorem sn_lc {K : PySem.W.Frag} {cl : Cl} {is vs : List Nat} {wi : TI} {ti : ME (List D)} {g : TG} {f : MG} {tt : TT} {dt : ME Bool} {te : TE} {de : ME D} (hi : Sn K cl W (RI K cl) wi ti) (hg : SnG K cl is g f) (hsub : ∀ i ∈ is, i ∈ vs) (ht : Sn K cl W0 RB tt dt) (he : Sn K cl W0 (RD K cl) te de) :
    Sn K cl W (RD K cl) (tLc wi g tt te vs) (dLc ti f dt de vs) := by
  intro ad σ H F s k Q rel p
  refine hi.bind rel p fun J ds H1 F1 k1 _ r1 x1 d1 p1 => ?_
  intro D hD
  refine ⟨fun i m H => m = ds.length - i ∧ i ≤ ds.length ∧ ∃ F k acc dd, Mk K cl ad H1 F1 k1 D H F k acc dd ∧ Post K cl W (RD K cl) ad σ H1 F1 s k1 (more dd (lcL f dt de (wipeS s vs) dd.length (ds.drop i) k)) Q,
    ⟨ds.length, by simp, Nat.zero_le _, F1, k1, [], [], Mk.new r1 hD, ?_⟩, ?_⟩
  · show Post K cl W (RD K cl) ad σ H1 F1 s k1 (more [] (lcL f dt de (wipeS s vs) 0 ds k1)) Q
    cases q : lcL f dt de (wipeS s vs) 0 ds k1 with
    | ok ys k' => rw [q] at p1; exact p1
    | ex c fs k' => rw [q] at p1; exact p1
    | no => rw [q] at p1; exact p1
  · rintro i m H ⟨rfl, hi', F2, k2, acc, dd, mk, p2⟩
    obtain ⟨go, stop⟩ := d1 H F2 mk.ext.sub mk.sub
    by_cases hlt : i < ds.length
    · have hd : ds[i]? = some ds[i] := List.getElem?_eq_getElem hlt
      have hdrop : ds.drop i = ds[i] :: ds.drop (i + 1) := List.drop_eq_getElem_cons hlt
      obtain ⟨g1, g2⟩ := go i _ hd
      rw [hdrop] at p2
      refine .inr ⟨g1, fun H' => ∃ F k acc dd, Mk K cl ad H1 F1 k1 D H' F k acc dd ∧ Post K cl W (RD K cl) ad σ H1 F1 s k1 (more dd (lcL f dt de (wipeS s vs) dd.length (ds.drop (i + 1)) k)) Q, fun H' q => ⟨ds.length - (i + 1), by omega, rfl, hlt, q⟩, fun x H' y => ?_⟩
      obtain ⟨F3, n3, d3⟩ := g2 x H' y
      have r2 := mk.rel r1
      have r3 := r2.new n3
      have mk3 := mk.go r1 n3.ext n3.ok r3.dk
      simp only [lcL] at p2
      cases z : f ds[i] (wipeS s vs) with
      | none => rw [z] at p2; exact False.elim p2
      | some s3 =>
        rw [z] at p2
        refine hg ad (L2.wipe σ vs) H' F3 (wipeS s vs) k2 x ds[i] s3 _ (r3.wipe vs) d3 z fun σ' r' l' k' o' => ?_
        refine ⟨wipe_eq (l'.trans (wipe_length _ _)) fun j hj => k' j fun m => hj (hsub j m), ?_⟩
        dsimp only at p2
        refine ht ad σ' H' F3 s3 k2 _ r' ?_
        cases w : dt s3 k2 with
        | no => rw [w] at p2; exact False.elim p2
        | ex c fs k3 => rw [w] at p2; exact False.elim p2
        | ok bb k3 =>
          rw [w] at p2
          intro v4 H4 F4 r4 x4 e4
          subst e4
          have mk4 := mk3.go r1 x4 r4.sub r4.dk
          cases v4 with
          | false => exact iteF ⟨F4, k3, acc, dd, mk4, p2⟩
          | true =>
            refine iteT ?_
            dsimp only at p2
            refine he ad σ' H4 F4 s3 k3 _ r4 ?_
            cases u : de s3 k3 with
            | no => rw [u] at p2; exact False.elim p2
            | ex c fs k5 => rw [u] at p2; exact False.elim p2
            | ok yy k5 =>
              rw [u] at p2
              intro v5 H5 F5 r5 x5 e5
              have mk5 := mk4.go r1 x5 r5.sub r5.dk
              dsimp only at p2
              by_cases hn : dd.length < sizeLine
              · rw [if_pos hn] at p2
                refine ⟨acc, mk5.at_, by rw [mk5.den.length]; exact hn, F5, k5, acc ++ [v5], dd ++ [yy], mk5.app r1 e5, ?_⟩
                rw [List.length_append, List.length_singleton]
                cases w2 : lcL f dt de (wipeS s vs) (dd.length + 1) (ds.drop (i + 1)) k5 with
                | ok ys k6 =>
                  rw [w2] at p2
                  simp only [more, List.append_assoc, List.singleton_append] at p2 ⊢
                  exact p2
                | ex c fs k6 => rw [w2] at p2; exact p2
                | no => rw [w2] at p2; exact p2
              · rw [if_neg hn] at p2; exact False.elim p2
    · have e : i = ds.length := by omega
      subst e
      rw [List.drop_length] at p2
      simp only [lcL, more, List.append_nil] at p2
      obtain ⟨F', ra, rb, rc⟩ := mk.end_ r1
      exact .inl ⟨stop, p2 _ H F' ra rb rc⟩
variable {elt iter : Expr} {ifs : List Expr} {scope : Scope} {own : List (Str × Nat)} {is : List Nat} {wi : TI} {ti : ME (List D)} {g : TG} {f : MG} {tt : TT} {dt : ME Bool} {te' : TE} {de : ME D}
/-- the context of a comprehension's block -/
abbrev bk (X : Cx) (scope : Scope) (s : Shared) (H : Hp) (C : Addr) (cl : List (Str × Addr)) (fp : List Addr) : Cx := X.blk s H scope (compEnvC scope cl C X.env) fp
theorem u_lc (hc : X.calm = true) (hN : X.N.Nodup) (hi : UI X W tg wi ti iter) (ok : BlkOk X.N X.env.scope scope own) (hsub : ∀ i ∈ is, i ∈ own.map (·.2))
    (hg : ∀ s H C cl fp, UG (bk X scope s H C cl fp) is g f tg) (ht : ∀ s H C cl fp, UTs (bk X scope s H C cl fp) W0 tt dt ifs) (he : ∀ s H C cl fp, UE (bk X scope s H C cl fp) W0 te' de elt) (hs : ∀ x, foldedSetIterable iter X.env x = pure x := by intro _; rfl) :
    UE X W (tLc wi g tt te' (own.map (·.2))) (dLc ti f dt de (own.map (·.2))) (.ListComp elt [⟨tg, iter, ifs, 0⟩] scope pos) :=
  ⟨pe_lc hc hN hi.pi ok (fun s H C cl fp => (hg s H C cl fp).pg) (fun s H C cl fp => (ht s H C cl fp).pt) (fun s H C cl fp => (he s H C cl fp).pe) hs,
    sn_lc hi.sn (hg X.s_0 (fun _ => none) 0 [] []).sn hsub (ht X.s_0 (fun _ => none) 0 [] []).sn (he X.s_0 (fun _ => none) 0 [] []).sn⟩
theorem us_setLc {i : Nat} {y : Str} {py spos : Pos} (hc : X.calm = true) (hN : X.N.Nodup) (hi : UI X W tg wi ti iter) (ok : BlkOk X.N X.env.scope scope own) (hsub : ∀ i ∈ is, i ∈ own.map (·.2))
    (hg : ∀ s H C cl fp, UG (bk X scope s H C cl fp) is g f tg) (ht : ∀ s H C cl fp, UTs (bk X scope s H C cl fp) W0 tt dt ifs) (he : ∀ s H C cl fp, UE (bk X scope s H C cl fp) W0 te' de elt)
    (hsw : swapsWith (.ListComp elt [⟨tg, iter, ifs, 0⟩] scope pos) (some (.Name y py)) spos.line X.env = pure true) (hy : X.N[i]? = some y := by rfl) (hyl : X.env.scope.names.lookup y = some .local := by rfl) (hs : ∀ x, foldedSetIterable iter X.env x = pure x := by intro _; rfl) :
    US X W (tAsg (tLc wi g tt te' (own.map (·.2))) (gName i)) (sAsg (dLc ti f dt de (own.map (·.2))) (mName i)) (.Assign [.Name y py] (.ListComp elt [⟨tg, iter, ifs, 0⟩] scope pos) spos) := by
  refine ⟨ps_setLc hc hN hy hyl hsw hi.pi ok (fun s H C cl fp => (hg s H C cl fp).pg) (fun s H C cl fp => (ht s H C cl fp).pt) (fun s H C cl fp => (he s H C cl fp).pe) hs, ?_⟩
  refine sn_asg (is := [i]) (sn_lc hi.sn (hg X.s_0 (fun _ => none) 0 [] []).sn hsub (ht X.s_0 (fun _ => none) 0 [] []).sn (he X.s_0 (fun _ => none) 0 [] []).sn) fun ad σ H F s k v d s' Q rel hd e q => ?_
  cases e
  refine q _ (rel.set i hd) (List.length_set ..) (fun j hj => ?_) fun j xs h1 => ?_
  · exact List.getElem?_set_ne (fun e => hj (by rw [e]; exact List.mem_singleton_self _))
  · obtain ⟨n, h⟩ := own_set h1
    exact ⟨h, List.getElem?_set_ne n⟩
end
end G
namespace G
open PySem PySem.Spec PyProof.Rows L2
/-! ### defs and their calls -/
abbrev Fn := List D → Sk → RE D
def PostF (K : PySem.W.Frag) (cl : Cl) (ad : Ad) (k : Sk) (F H : Hp) (r : RE D) (Q : VK) (E : XK) : Prop :=
  match r with
  | .ok d k' => ∀ v H' F', Same F' H' → KOk K cl ad H' F' k' → Ext ad k k' F H F' H' → Den K cl ad F' v d → Q v H'
  | .ex c fs k' => ∀ cls dd H' F', Same F' H' → KOk K cl ad H' F' k' → Ext ad k k' F H F' H' → ExcIs K cl ad F' cls dd c fs → E cls dd H'
  | .no => False
def spD (K : PySem.W.Frag) (cl : Cl) (g : Fn) : Sp := fun vs H Q E => ∃ ad F ds k, Same F H ∧ DenA K cl ad F vs ds ∧ KOk K cl ad H F k ∧ PostF K cl ad k F H (g ds k) Q E
def fnDen (np nN : Nat) (body : MS) : Fn := fun ds k => if ds.length = np then (match body (ds.map Sl.val ++ List.replicate (nN - ds.length) Sl.emp) k with
  | .nx _ k' => .ok .non k'
  | .ret d k' => .ok d k'
  | .ex c fs _ k' => .ex c fs k'
  | _ => .no) else .no
abbrev WEx (E : XK) : WX := fun cls d _ H => E cls d H
theorem rel_start {K : PySem.W.Frag} {cl : Cl} {ad : Ad} {H F : Hp} {vs : List V} {ds : List D} {k : Sk} (N : List Str) (h : Same F H) (hd : DenA K cl ad F vs ds) (dk : KOk K cl ad H F k) :
    RelS K cl ad H F k (L2.start N vs) H F (ds.map Sl.val ++ List.replicate (N.length - ds.length) Sl.emp) k := by
  have noOwn : ∀ (i : Nat) (xs : D), (ds.map Sl.val ++ List.replicate (N.length - ds.length) Sl.emp)[i]? ≠ some (Sl.own xs) := fun i xs e => by
    have hm := List.mem_of_getElem? e
    rcases List.mem_append.mp hm with z | z
    · obtain ⟨d, _, q⟩ := List.mem_map.mp z; cases q
    · have := List.eq_of_mem_replicate z; cases this
  refine ⟨⟨h, ?_, fun i d e => ?_, fun i xs e => absurd e (noOwn i xs), fun i j xs ys b e => absurd e (noOwn i xs), dk⟩, Ext.refl, fun i xs b e => absurd e (noOwn i xs)⟩
  · unfold L2.start
    rw [List.length_append, List.length_append, List.length_map, List.length_map, List.length_replicate, List.length_replicate, hd.length]
  · by_cases hi : i < ds.length
    · rw [List.getElem?_append_left (by rw [List.length_map]; exact hi), List.getElem?_map] at e
      cases q : ds[i]? with
      | none => rw [q] at e; cases e
      | some y =>
        rw [q] at e
        cases e
        obtain ⟨x, h1, h2⟩ := hd.get q
        refine ⟨x, ?_, h2⟩
        unfold L2.start
        rw [List.getElem?_append_left (by rw [List.length_map, hd.length]; exact hi), List.getElem?_map, h1]
        rfl
    · rw [List.getElem?_append_right (by rw [List.length_map]; omega)] at e
      have := List.eq_of_mem_replicate (List.mem_of_getElem? e)
      cases this
/-- a def's promise, where no repr is under way -/
structure FnG (P : Program) (w : World) (K : PySem.W.Frag) (mg : Str → Option Value) (base : Heap) (k : Nat) (f : Addr) (fd : FuncData) (ps : List Str) (sp : Sp) : Prop where
  len : ∀ vs H Q E, sp vs H Q E → vs.length = ps.length
  run : ∀ (A : Around) (outer : List Env) (s : Shared) (H : Hp) (args : Args) (us : List Value) (vs : List V) (Q : VK) (E : XK), A.guards = some [] → Room k A → Env0 P w K mg base A outer s H → BindsTo s fd args (ps.zip us) → Vals vs us → sp vs H Q E →
    codeAny (model P w) A (.call (.ref f) args) (CR (L2.CX P w) outer P w H s Q E) s
section
variable {P : Program} {w : World} {K : PySem.W.Frag} {mg : Str → Option Value} {base : Heap}
theorem FnG.mono {j k : Nat} {f : Addr} {fd : FuncData} {ps : List Str} {sp : Sp} (F : FnG P w K mg base j f fd ps sp) (h : j ≤ k) : FnG P w K mg base k f fd ps sp :=
  ⟨F.len, fun A outer s H args us vs Q E g hr => F.run A outer s H args us vs Q E g (hr.mono h)⟩
theorem FnG.of {k : Nat} {f : Addr} {fd : FuncData} {ps : List Str} {sp : Sp} (F : FnOk P w K mg base (L2.CX P w) k f fd ps sp) : FnG P w K mg base k f fd ps sp :=
  ⟨F.len, fun A outer s H args us vs Q E _ hr => F.run A outer s H args us vs Q E hr⟩
theorem fn_ofG {x qual : Str} {params : Arguments} {body : List Stmt} {scope : Scope} {dvs : List V} {kws : List (Str × V)} {f : Addr} {fd : FuncData} {N ps : List Str} {k : Nat} {sp : Sp}
    (F : FunD K x qual params body scope dvs kws f fd) (S : FnScope N ps scope) (len : ∀ vs H Q E, sp vs H Q E → vs.length = ps.length)
    (hbody : ∀ (cdv : Value) (A : Around) (outer : List Env) (s : Shared) (H : Hp) (vs : List V) (Q : VK) (E : XK), A.guards = some [] → Room k (A.deeper (envOfC qual scope s.heap.objs.size f cdv)) → sp vs H Q E →
      ∃ t, PSs (cxOf (L2.CX P w) P w K mg base N qual scope f cdv A outer s H E) body t ∧ t { nx := fun _ H' => Q .non H', rt := Q } (L2.start N vs) H) : FnG P w K mg base (k + 1) f fd ps sp := by
  obtain ⟨oc, od, dV, kV, doc, pm, an, cdv, ct, osl, rfl, lk, hcd, _, _⟩ := F.ex
  refine ⟨len, fun A outer s H args us vs Q E gd hr e0 hb r hsp => ?_⟩
  have keep : ∀ b o, base.get? b = some o → s.heap.get? b = some o := fun b o e => (e0.bs b o e).1
  have KX : K.In s.heap := e0.mod.kin.keeps keep
  have kinds : ∀ y ∈ ps.zip us, scope.names.lookup y.1 = some .local ∨ (scope.names.lookup y.1 = some .cell ∧ ((cellsFrom (s.heap.objs.size + 1) scope.names []).lookup y.1).isSome = true) := by
    intro y hy
    obtain ⟨n, v⟩ := y
    cases S.par n (List.of_mem_zip hy).1 with
    | inl q => exact Or.inl q
    | inr q => exact Or.inr ⟨q, PySem.W.cellsFrom_some _ _ _ (Or.inl q)⟩
  obtain ⟨t, ht, hq⟩ := hbody cdv A outer s H vs Q E gd (hr.deeper _) hsp
  refine codeAny_call_function hr.depth (KX _ _ lk) rfl S.co S.gen rfl (PySem.W.codeRec_of KX hcd) (hb _ _ _ _ (wpAny_newFunctionEnv_cells S.kind kinds ?_))
  intro env he s1 x1
  subst he
  refine ⟨(e0.mod.nolimit.keeps keep).keeps x1.toInCall.keep, codeAny_func ?_⟩
  have I : Inv (cxOf (L2.CX P w) P w K mg base N qual scope f cdv A outer s H E) [] (L2.start N vs) H s1 := inv_start S hr.hd e0 (len _ _ _ _ hsp) r x1
  refine wpAny_mono (ht.run [] s1 (L2.start N vs) H _ I hq) ?_ (fun e s' hs => hs)
  intro fl s' hs
  cases fl with
  | ret u =>
    obtain ⟨v, σ', H', J, rv, q⟩ := hs
    exact ⟨v, H', J.os, J.bare, J.base, J.hok, rv, q⟩
  | next =>
    obtain ⟨σ', H', J, q⟩ := hs
    exact ⟨V.non, H', J.os, J.bare, J.base, J.hok, rfl, q⟩
  | brk => exact False.elim hs.choose_spec.choose_spec.2
  | cont => exact False.elim hs.choose_spec.choose_spec.2
theorem fn_okD {x qual : Str} {params : Arguments} {body : List Stmt} {scope : Scope} {kws : List (Str × V)} {f : Addr} {fd : FuncData} {N ps : List Str} {j : Nat} {db : MS}
    (F : FunD K x qual params body scope [] kws f fd) (S : FnScope N ps scope)
    (hbody : ∀ (cdv : Value) (A : Around) (outer : List Env) (s : Shared) (H : Hp) (E : XK), A.guards = some [] → Room j (A.deeper (envOfC qual scope s.heap.objs.size f cdv)) →
      ∃ r, USs (cxOf (L2.CX P w) P w K mg base N qual scope f cdv A outer s H E) (WEx E) r db body) :
    FnG P w K mg base (j + 1) f fd ps (spD K (clOf mg) (fnDen ps.length N.length db)) := by
  refine fn_ofG F S (fun vs H Q E h => ?_) (fun cdv A outer s H vs Q E gd hr h => ?_)
  · obtain ⟨ad, F', ds, k, h1, h2, h3, h4⟩ := h
    by_cases c : ds.length = ps.length
    · rw [h2.length]; exact c
    · unfold fnDen at h4
      rw [if_neg c] at h4
      exact False.elim h4
  · obtain ⟨ad, F', ds, k, h1, h2, h3, h4⟩ := h
    obtain ⟨r, u⟩ := hbody cdv A outer s H E gd hr
    refine ⟨r, u.ps, u.sn ad H F' k (L2.start N vs) H F' _ k _ (rel_start N h1 h2 h3) ?_⟩
    by_cases c : ds.length = ps.length
    · unfold fnDen at h4
      rw [if_pos c] at h4
      cases q : db (ds.map Sl.val ++ List.replicate (N.length - ds.length) Sl.emp) k with
      | nx s' k' => rw [q] at h4; exact fun σ' H' F'' r' x' => h4 .non H' F'' r'.rel.sub r'.rel.dk r'.ext .non
      | ret d k' => rw [q] at h4; exact fun v σ' H' F'' s' r' x' d' => h4 v H' F'' r'.rel.sub r'.rel.dk r'.ext d'
      | ex c fs s' k' => rw [q] at h4; exact fun cls dd σ' H' F'' r' x' e' => h4 cls dd H' F'' r'.rel.sub r'.rel.dk r'.ext e'
      | brk s' k' => rw [q] at h4; exact False.elim h4
      | ct s' k' => rw [q] at h4; exact False.elim h4
      | no => rw [q] at h4; exact False.elim h4
    · unfold fnDen at h4
      rw [if_neg c] at h4
      exact False.elim h4
end
section
variable {X : Cx} {W : WX} {a : Expr} {es : List Expr} {re : TA} {te : ME (List D)} {pos p : Pos} {x : Str} {f : Addr} {fd : FuncData} {ps : List Str} {j : Nat} {g : Fn}
def dCall (g : Fn) (te : ME (List D)) : ME D := eb te fun ds => fun _ k => g ds k
theorem sn_call {K : PySem.W.Frag} {cl : Cl} (ha : Sn K cl W (RA K cl) re te) : Sn K cl W (RD K cl) (tCallS (spD K cl g) (WE W) re) (dCall g te) := by
  intro ad σ H F s k Q rel p
  refine ha.bind rel p fun vs ds H1 F1 k1 _ r1 x1 d1 p1 => ?_
  refine ⟨ad, F1, ds, k1, r1.sub, d1, r1.dk, ?_⟩
  cases q : g ds k1 with
  | ok d k' =>
    simp only [q] at p1
    exact fun v H' F' h1 h2 h3 h4 => p1 v H' F' (r1.extd h3 h1 h2) h3 h4
  | ex c fs k' =>
    simp only [q] at p1
    exact fun cls dd H' F' h1 h2 h3 h4 => p1 cls dd H' F' (r1.extd h3 h1 h2) h3 h4
  | no =>
    simp only [q] at p1
    exact p1
theorem run_fnG {pins : List (Addr × Obj)} {σ : L2.St} {H : Hp} {s : Shared} {Q : VK} {us : List Value} {vs : List V} {sp : Sp} {E : XK} (F : FnG X.prog X.w X.K X.mg X.base j f fd ps sp) (gd : X.A.guards = some []) (hr : Room j X.A) (hb : Binds X.K fd ps []) (hx : PassesAt (L2.CX X.prog X.w) X σ E)
    (I : Inv X pins σ H s) (r : Vals vs us) (h : sp vs H Q E) : wpAny (model X.prog X.w) X.A (call (.ref f) us) (EP X pins σ Q) X.xe s := by
  have hl : us.length = ps.length := r.length.symm.trans (F.len _ _ _ _ h)
  have b := hb s us I.kIn (by rw [List.append_nil]; exact hl)
  rw [List.append_nil] at b
  refine wpAny_call (codeAny_mono (F.run X.A X.stack s H ⟨us, []⟩ us vs Q E gd hr I.env0 b r h) ?_)
  rintro (e | fl) s' hq
  · exact hx pins H s e s' I hq
  · cases fl with
    | ret u => exact I.after hq
    | _ => exact False.elim hq
theorem u_call (F : FnG X.prog X.w X.K X.mg X.base j f fd ps (spD X.K (clOf X.mg) g)) (gd : X.A.guards = some []) (hr : Room j X.A) (hm : X.mg x = some (.ref f)) (hk : PySem.W.keepIn X.K (.ref f) = true) (hb : Binds X.K fd ps []) (tk : Takes X W)
    (ha : UA X W re te (a :: es)) (hg : Gl X x := by rfl) (hdb : (x == ("__debug__" : Str)) = false := by decide) (he : starEach (a :: es) X.env = (false, eval a X.env) :: starEach es X.env := by rfl) (hpl : (backTo pos (starEach es X.env)).any (·.1) = false := by rfl) :
    UE X W (tCallS (spD X.K (clOf X.mg) g) (WE W) re) (dCall g te) (.Call (.Name x p) (a :: es) [] pos) := by
  refine ⟨⟨fun pins s σ H Q I h => ?_⟩, sn_call ha.sn⟩
  refine wpAny_Call_Name_kw (ld_glob I hg hm (PySem.W.callWith_K (h₀ := X.base) I.ok.mod.kin hk (thn (ha.pa.run pos pins s σ H _ I h) ?_) he hpl) hdb)
  rintro us s1 ⟨vs, H1, I1, r, q⟩
  exact ⟨I1.kIn, run_fnG F gd hr hb (passAt tk σ) I1 r q⟩
/-- keywords -/
structure UK (X : Cx) (W : WX) (r : TA) (t : ME (List D)) (kws : List Keyword) : Prop where
  pk : PK X kws r
  sn : Sn X.K (clOf X.mg) W (RA X.K (clOf X.mg)) r t
variable {kws : List Keyword} {rk : TA} {tk' : ME (List D)}
theorem uk_nil : UK X W tNil dNil [] := ⟨pk_nil, (ua_nil (X := X) (W := W)).sn⟩
theorem uk_cons {ra : TE} {ta : ME D} {nm : Option Str} {kpos : Pos} (ha : UE X W ra ta a) (hr : UK X W rk tk' kws) (h : ∀ ra' : TE, PE X a ra' → ∀ t, PK X kws t → PK X (⟨nm, a, kpos⟩ :: kws) (tCons ra' t) := fun _ h1 _ h2 => pk_cons h1 h2) : UK X W (tCons ra rk) (dCons ta tk') (⟨nm, a, kpos⟩ :: kws) := by
  refine ⟨h _ ha.pe _ hr.pk, fun ad σ H F s k Q rel p => ?_⟩
  refine ha.sn.bind rel p fun x d H1 F1 k1 _ r1 x1 d1 p1 => ?_
  refine hr.sn.bind r1 p1 fun xs ds H2 F2 k2 _ r2 x2 d2 p2 => ?_
  exact p2.ok0 (a := d :: ds) r2 (.cons (d1.mono x2.sub) d2)
end
end G
namespace G
open PySem PySem.Spec PyProof.Rows L2
/-! ### data as the library's data -/
def keyPy : Key → PyData
  | .inl i => .int i
  | .inr x => .str x
mutual
def toPy : D → Option PyData
  | .non => some .none
  | .bl b => some (.bool b)
  | .int i => some (.int i)
  | .str x => some (.str x)
  | .tup xs => (toPys xs).map .tuple
  | .lst xs => (toPys xs).map .list
  | .dct kvs => (toPyK kvs).map .dict
  | .dcT _ => none
  | .dcL _ => none
  | .dcQ _ => none
  | .dcX _ => none
  | .exc _ _ => none
  | .ins _ _ => none
  | .ty _ => none
  | .cls _ => none
  | .deck => none
  | .slf => none
  | .scr _ => none
def toPys : List D → Option (List PyData)
  | [] => some []
  | x :: xs => match toPy x, toPys xs with
    | some p, some ps => some (p :: ps)
    | _, _ => none
def toPyK : List (Key × D) → Option (List (PyData × PyData))
  | [] => some []
  | (k, x) :: xs => match toPy x, toPyK xs with
    | some p, some ps => some ((keyPy k, p) :: ps)
    | _, _ => none
end
theorem toPys_cons {x : D} {xs : List D} {ps : List PyData} (h : toPys (x :: xs) = some ps) : ∃ p r, ps = p :: r ∧ toPy x = some p ∧ toPys xs = some r := by
  unfold toPys at h
  cases a : toPy x with
  | none => rw [a] at h; cases h
  | some p =>
    cases b : toPys xs with
    | none => rw [a, b] at h; cases h
    | some r => rw [a, b] at h; cases h; exact ⟨p, r, rfl, rfl, rfl⟩
theorem toPyK_cons {k : Key} {x : D} {xs : List (Key × D)} {ps : List (PyData × PyData)} (h : toPyK ((k, x) :: xs) = some ps) : ∃ p r, ps = (keyPy k, p) :: r ∧ toPy x = some p ∧ toPyK xs = some r := by
  unfold toPyK at h
  cases a : toPy x with
  | none => rw [a] at h; cases h
  | some p =>
    cases b : toPyK xs with
    | none => rw [a, b] at h; cases h
    | some r => rw [a, b] at h; cases h; exact ⟨p, r, rfl, rfl, rfl⟩
mutual
/-- no list within -/
def noList : PyData → Bool
  | .none | .bool _ | .int _ | .str _ => true
  | .list _ => false
  | .tuple xs => noLists xs
  | .dict kvs => noListK kvs
def noLists : List PyData → Bool
  | [] => true
  | x :: xs => noList x && noLists xs
def noListK : List (PyData × PyData) → Bool
  | [] => true
  | (_, x) :: xs => noList x && noListK xs
end
def SysAt (X : Cx) : Prop := ∃ o, X.base.get? sysModules = some o
section
variable {X : Cx} {pins : List (Addr × Obj)} {σ : L2.St} {H F : Hp} {s : Shared} {cl : Cl} {ad : Ad}
theorem pairs_reads {P : Program} {w : World} {h : Heap} : ∀ {es : List DictEntry} {kvs : List (Key × Value)}, Pairs (mixKind P w) es kvs → ReadsAll h (es.map (·.key)) (kvs.map fun p => keyPy p.1) []
  | _, _, .nil => .nil
  | _, _, .cons (e := e) (kv := kv) h1 h2 h3 => by
    have ih := pairs_reads (h := h) h3
    have q : Reads h e.key (keyPy kv.1) [] := by
      rcases keyIs_shape h1 with ⟨i, t, e1, e2⟩ | ⟨x, t, e1, e2⟩
      · rw [e1, e2]; exact .int i t
      · rw [e1, e2]; exact .str x t
    exact ReadsAll.cons (as := []) (bs := []) q ih
theorem pairs_vals {P : Program} {w : World} : ∀ {es : List DictEntry} {kvs : List (Key × Value)}, Pairs (mixKind P w) es kvs → es.map (·.val) = kvs.map (·.2)
  | _, _, .nil => rfl
  | _, _, .cons h1 h2 h3 => by rw [List.map_cons, List.map_cons, h2, pairs_vals h3]
mutual
theorem Den.reads (I : Inv X pins σ H s) (sub : Same F H) : ∀ {d : D} {v : V} {u : Value} {p : PyData}, Den X.K cl ad F v d → RelV v u → toPy d = some p → ∃ as, Reads s.heap u p as ∧ (SysAt X ∨ noList p = true → sysModules ∉ as)
  | .non, _, _, _, .non, r, e => by cases r; cases e; exact ⟨[], .none, fun _ => List.not_mem_nil⟩
  | .bl b, _, _, _, .bl _, r, e => by cases r; cases e; exact ⟨[], .bool _, fun _ => List.not_mem_nil⟩
  | .int i, _, _, _, .int _, r, e => by obtain ⟨t, rfl⟩ := r; cases e; exact ⟨[], .int _ _, fun _ => List.not_mem_nil⟩
  | .str x, _, _, _, .str _, r, e => by obtain ⟨t, rfl⟩ := r; cases e; exact ⟨[], .str _ _, fun _ => List.not_mem_nil⟩
  | .tup ds, _, _, _, .tup h a, r, e => by
    cases r
    obtain ⟨ps, e1, e2⟩ := Option.map_eq_some_iff.mp e
    obtain ⟨its, rv, ⟨o, ho, hc, n, hd⟩, _⟩ := I.tuple (tup_same sub h)
    obtain ⟨as, hr, c1⟩ := DenA.reads I sub a rv e1
    subst e2
    exact ⟨as, .tuple ho hc hd hr, c1⟩
  | .lst ds, _, _, _, .lst (a := b) h a, r, e => by
    cases r
    obtain ⟨ps, e1, e2⟩ := Option.map_eq_some_iff.mp e
    obtain ⟨its, rv, ⟨o, n, ho, hc, _, hd⟩, _⟩ := I.list (SqL.of (K := X.K) (sub _ _ h))
    obtain ⟨as, hr, c1⟩ := DenA.reads I sub a rv e1
    subst e2
    refine ⟨b :: as, .list ho hc hd hr, fun hs hm => ?_⟩
    rcases hs with ⟨ob, hob⟩ | hs
    · rcases List.mem_cons.mp hm with z | z
      · have n0 := (I.bs _ _ hob).2
        rw [z, sub _ _ h] at n0; cases n0
      · exact c1 (.inl ⟨ob, hob⟩) z
    · cases hs
  | .dct kvs, _, _, _, .dct (a := b) h a, r, e => by
    cases r
    obtain ⟨ps, e1, e2⟩ := Option.map_eq_some_iff.mp e
    obtain ⟨_, hsys, vs, rel, o, es, ep, ho, hx, hd, _, pr, _⟩ := I.hok b _ (sub _ _ h)
    obtain ⟨as, hk, hr, c1⟩ := DenK.reads I sub a rel e1
    subst e2
    have q1 := pairs_reads (h := s.heap) pr
    rw [hk] at q1
    rw [← pairs_vals pr] at hr
    refine ⟨b :: [] ++ as, .dict ho hx.1 hd q1 hr, fun hs hm => ?_⟩
    rcases List.mem_cons.mp (show sysModules ∈ b :: as from hm) with z | z
    · rw [← z] at hsys; simp at hsys
    · exact c1 hs z
theorem DenA.reads (I : Inv X pins σ H s) (sub : Same F H) : ∀ {ds : List D} {vs : List V} {us : List Value} {ps : List PyData}, DenA X.K cl ad F vs ds → Vals vs us → toPys ds = some ps →
    ∃ as, ReadsAll s.heap us ps as ∧ (SysAt X ∨ noLists ps = true → sysModules ∉ as)
  | [], _, _, _, .nil, .nil, e => by cases e; exact ⟨[], .nil, fun _ => List.not_mem_nil⟩
  | d :: ds, _, _, _, .cons h1 h2, .cons r1 r2, e => by
    obtain ⟨p, r, rfl, e1, e2⟩ := toPys_cons e
    obtain ⟨as, q1, c1⟩ := Den.reads I sub h1 r1 e1
    obtain ⟨bs, q2, c2⟩ := DenA.reads I sub h2 r2 e2
    refine ⟨as ++ bs, .cons q1 q2, fun hs hm => ?_⟩
    have hs1 : SysAt X ∨ (noList p = true ∧ noLists r = true) := hs.imp id fun z => by
      unfold noLists at z
      exact (Bool.and_eq_true _ _).mp z
    rcases List.mem_append.mp hm with z | z
    · exact c1 (hs1.imp id And.left) z
    · exact c2 (hs1.imp id And.right) z
theorem DenK.reads (I : Inv X pins σ H s) (sub : Same F H) : ∀ {ds : List (Key × D)} {vs : List (Key × V)} {us : List (Key × Value)} {ps : List (PyData × PyData)}, DenK X.K cl ad F vs ds → KV vs us → toPyK ds = some ps →
    ∃ as, us.map (fun q => keyPy q.1) = ps.map (·.1) ∧ ReadsAll s.heap (us.map (·.2)) (ps.map (·.2)) as ∧ (SysAt X ∨ noListK ps = true → sysModules ∉ as)
  | [], _, _, _, .nil, .nil, e => by cases e; exact ⟨[], rfl, .nil, fun _ => List.not_mem_nil⟩
  | (k, d) :: ds, _, _, _, .cons h1 h2, .cons r1 r2, e => by
    obtain ⟨p, r, rfl, e1, e2⟩ := toPyK_cons e
    obtain ⟨as, q1, c1⟩ := Den.reads I sub h1 r1.2 e1
    obtain ⟨bs, hk, q2, c2⟩ := DenK.reads I sub h2 r2 e2
    refine ⟨as ++ bs, ?_, .cons q1 q2, fun hs hm => ?_⟩
    · rw [List.map_cons, List.map_cons, hk, ← r1.1]
    · have hs1 : SysAt X ∨ (noList p = true ∧ noListK r = true) := hs.imp id fun z => by
        unfold noListK at z
        exact (Bool.and_eq_true _ _).mp z
      rcases List.mem_append.mp hm with z | z
      · exact c1 (hs1.imp id And.left) z
      · exact c2 (hs1.imp id And.right) z
end
end
/-! ### operators -/
def rOr (r r' : R2) : R2 := fun x y H Q => r x y H Q ∨ r' x y H Q
theorem opr_or {X : Cx} {f : Value → Value → Sem Value} {r r' : R2} (a : OpR X f r) (b : OpR X f r') : OpR X f (rOr r r') := fun pins s σ H x y v u Q I rx ry h =>
  h.elim (a pins s σ H x y v u Q I rx ry) (b pins s σ H x y v u Q I rx ry)
abbrev rAddI : R2 := rI0 fun i j => .int (i + j)
abbrev rAddT : R2 := fun x y H Q => ∃ i j, x = .str i ∧ y = .str j ∧ i.length + j.length ≤ sizeLine ∧ Q (.str (i ++ j)) H
def rAdds (K : PySem.W.Frag) : R2 := rOr rAddI (rOr rAddT (rOr rCat (rCatA K)))
theorem op_adds {X : Cx} : OpR X (binaryOp .Add) (rAdds X.K) := opr_or op_add (opr_or op_add_str (opr_or op_cat op_catA))
/-- a value, if a condition holds -/
def chk (c : Bool) (d : D) : Option D := if c = true then some d else none
theorem chk_some {c : Bool} {d z : D} (h : chk c d = some z) : c = true ∧ z = d := by
  unfold chk at h
  by_cases w : c = true
  · rw [if_pos w] at h; cases h; exact ⟨w, rfl⟩
  · rw [if_neg w] at h; cases h
theorem chk_pos {c : Bool} {d : D} (h : c = true) : chk c d = some d := if_pos h
def addD : D → D → Option D
  | .int i, .int j => some (.int (i + j))
  | .str i, .str j => chk (decide (i.length + j.length ≤ sizeLine)) (.str (i ++ j))
  | .lst xs, .lst ys => chk (decide (xs.length + ys.length ≤ sizeLine)) (.lst (xs ++ ys))
  | .tup xs, .tup ys => chk (decide (xs.length + ys.length ≤ sizeLine)) (.tup (xs ++ ys))
  | _, _ => none
section
variable {K : PySem.W.Frag} {cl : Cl}
theorem sn_add : OpSn K cl (rAdds K) addD := by
  intro ad F H x y d e z Q sub hx hy hz q
  cases hx with
  | int i =>
    cases hy with
    | int j => cases hz; exact .inl ⟨i, j, rfl, rfl, q _ H F (New.refl sub) (.int _)⟩
    | _ => cases hz
  | str i =>
    cases hy with
    | str j =>
      obtain ⟨c, rfl⟩ := chk_some hz
      exact .inr (.inl ⟨i, j, rfl, rfl, of_decide_eq_true c, q _ H F (New.refl sub) (.str _)⟩)
    | _ => cases hz
  | @lst a xs ds h1 a1 =>
    cases hy with
    | @lst b ys es h2 a2 =>
      obtain ⟨c, rfl⟩ := chk_some hz
      refine .inr (.inr (.inl ⟨_, _, _, _, rfl, rfl, sub _ _ h1, sub _ _ h2, by rw [a1.length, a2.length]; exact of_decide_eq_true c, fun p hp => ?_⟩))
      have n := New.one (o := .lst (xs ++ ys)) sub hp
      exact q _ _ _ n (.lst upd_same ((a1.append a2).mono n.sub))
    | _ => cases hz
  | @tup a xs ds h1 a1 =>
    cases hy with
    | @tup b ys es h2 a2 =>
      obtain ⟨c, rfl⟩ := chk_some hz
      refine .inr (.inr (.inr ⟨_, _, _, _, rfl, rfl, tup_same sub h1, tup_same sub h2, by rw [a1.length, a2.length]; exact of_decide_eq_true c, fun e => ?_, fun e1 e2 => ?_, fun e1 e2 p hp => ?_⟩))
      · subst e
        cases a1
        exact q _ H F (New.refl sub) (.tup h2 a2)
      · subst e2
        cases a2
        rw [List.append_nil] at q
        exact q _ H F (New.refl sub) (.tup h1 a1)
      · have n := New.one (o := .tup (xs ++ ys)) sub hp
        exact q _ _ _ n (.tup upd_same ((a1.append a2).mono n.sub))
    | _ => cases hz
  | _ => cases hz
/-- ints alone -/
def iiD (c : Int → Int → Bool) (f : Int → Int → D) : D → D → Option D
  | .int i, .int j => chk (c i j) (f i j)
  | _, _ => none
theorem sn_ii {c : Int → Int → Bool} {C : Int → Int → Prop} {f : Int → Int → D} {g : Int → Int → V} (hc : ∀ i j, c i j = true → C i j) (hg : ∀ ad F i j, Den K cl ad F (g i j) (f i j)) : OpSn K cl (rI C g) (iiD c f) := by
  intro ad F H x y d e z Q sub hx hy hz q
  cases hx with
  | int i =>
    cases hy with
    | int j =>
      obtain ⟨w, rfl⟩ := chk_some hz
      exact ⟨i, j, rfl, rfl, hc i j w, q _ H F (New.refl sub) (hg ad F i j)⟩
    | _ => cases hz
  | _ => cases hz
def iD (f : Int → Int → D) : D → D → Option D
  | .int i, .int j => some (f i j)
  | _, _ => none
theorem sn_i0 {f : Int → Int → D} {g : Int → Int → V} (hg : ∀ ad F i j, Den K cl ad F (g i j) (f i j)) : OpSn K cl (rI0 g) (iD f) := by
  intro ad F H x y d e z Q sub hx hy hz q
  cases hx with
  | int i =>
    cases hy with
    | int j => cases hz; exact ⟨i, j, rfl, rfl, q _ H F (New.refl sub) (hg ad F i j)⟩
    | _ => cases hz
  | _ => cases hz
/-- * : together below a million bits -/
def okMul (i j : Int) : Bool := decide (i.natAbs.log2 + j.natAbs.log2 < 1000000)
def okDiv (_ j : Int) : Bool := decide (0 < j) && decide (j.natAbs.log2 < 9000)
def fdivD : D → D → Option D := iiD okDiv fun i j => .int (i / j)
theorem sn_fdiv : OpSn K cl (rI CDivW fun i j => .int (i / j)) fdivD := sn_ii (fun _ _ h => by
  unfold okDiv at h
  rw [Bool.and_eq_true, decide_eq_true_eq, decide_eq_true_eq] at h
  exact h) fun _ _ _ _ => .int _
def modD : D → D → Option D := iiD (fun _ j => decide (0 < j)) fun i j => .int (i % j)
theorem sn_mod : OpSn K cl (rI (fun _ j => 0 < j) fun i j => .int (i % j)) modD := sn_ii (fun _ _ h => of_decide_eq_true h) fun _ _ _ _ => .int _
def okPow (i j : Int) : Bool := decide (0 ≤ j) && decide (j ≤ 1000000) && decide (i.natAbs < 2 ^ 64)
def powD : D → D → Option D := iiD okPow fun i j => .int (i ^ j.toNat)
theorem sn_pow : OpSn K cl (rI CPow fun i j => .int (i ^ j.toNat)) powD := sn_ii (fun _ _ h => by
  unfold okPow at h
  rw [Bool.and_eq_true, Bool.and_eq_true, decide_eq_true_eq, decide_eq_true_eq, decide_eq_true_eq] at h
  exact ⟨h.1.1, h.1.2, h.2⟩) fun _ _ _ _ => .int _
/-! ### comparisons -/
end
/-- == of data: strings at once, all else as the library's data -/
def eqD' (neg : Bool) (d e : D) : Option D := match toPy d, toPy e with
  | some p, some q => chk (SeqAt.shaped p && SeqAt.shaped q) (.bl (neg ^^ PyData.eqv p q))
  | _, _ => none
def eqD (neg : Bool) : D → D → Option D
  | .str x, .str y => some (.bl (neg ^^ decide (x.cps.toList = y.cps.toList)))
  | .int x, .int y => some (.bl (neg ^^ decide (x = y)))
  | d, e => eqD' neg d e
def rEqG' (K : PySem.W.Frag) (cl : Cl) (neg : Bool) : R2 := fun x y H Q => ∃ ad F d e p q, Same F H ∧ Den K cl ad F x d ∧ Den K cl ad F y e ∧ toPy d = some p ∧ toPy e = some q ∧ SeqAt.shaped p = true ∧ SeqAt.shaped q = true ∧ Q (.bl (neg ^^ PyData.eqv p q)) H
def rEqS (neg : Bool) : R2 := fun x y H Q => (∃ i j, x = .str i ∧ y = .str j ∧ Q (.bl (neg ^^ decide (i.cps.toList = j.cps.toList))) H) ∨ ∃ i j, x = .int i ∧ y = .int j ∧ Q (.bl (neg ^^ decide (i = j))) H
def rEqG (K : PySem.W.Frag) (cl : Cl) (neg : Bool) : R2 := rOr (rEqS neg) (rEqG' K cl neg)
theorem str_dec {i j : Str} : decide (V.str i = V.str j) = decide (i.cps.toList = j.cps.toList) := by
  apply decide_eq_decide.mpr
  constructor
  · intro h; cases h; rfl
  · intro h
    cases i with
    | mk a => cases j with
      | mk b =>
        have : a = b := Array.toList_inj.mp h
        rw [this]
theorem int_dec {i j : Int} : decide (V.int i = V.int j) = decide (i = j) := by
  apply decide_eq_decide.mpr
  constructor
  · intro h; cases h; rfl
  · intro h; rw [h]
theorem op_eqSt {X : Cx} : OpR X (compareOp .Eq) (rEqS false) := by
  intro pins s σ H x y v u Q I rx ry h
  rcases h with ⟨i, j, rfl, rfl, h⟩ | ⟨i, j, rfl, rfl, h⟩
  · refine op_eq pins s σ H _ _ v u Q I rx ry ⟨rfl, ?_⟩
    rw [str_dec]; simpa using h
  · refine op_eq pins s σ H _ _ v u Q I rx ry ⟨rfl, ?_⟩
    rw [int_dec]; simpa using h
theorem op_neSt {X : Cx} : OpR X (compareOp .NotEq) (rEqS true) := by
  intro pins s σ H x y v u Q I rx ry h
  rcases h with ⟨i, j, rfl, rfl, h⟩ | ⟨i, j, rfl, rfl, h⟩
  · refine op_ne pins s σ H _ _ v u Q I rx ry ⟨rfl, ?_⟩
    rw [str_dec]; simpa using h
  · refine op_ne pins s σ H _ _ v u Q I rx ry ⟨rfl, ?_⟩
    rw [int_dec]; simpa using h
theorem op_eqG' {X : Cx} (hu : X.A.units + 64 < cLine) : OpR X (compareOp .Eq) (rEqG' X.K (clOf X.mg) false) := by
  intro pins s σ H x y v u Q I rx ry h
  obtain ⟨ad, F, d, e, p, q, sub, hd, he, ep, eq, sp, sq, h⟩ := h
  obtain ⟨as, r1, _⟩ := hd.reads I sub rx ep
  obtain ⟨bs, r2, _⟩ := he.reads I sub ry eq
  exact SeqAt.compareEq_shaped r1 r2 sp sq hu ⟨.bl _, H, I, rfl, by simpa using h⟩
theorem op_neG' {X : Cx} (hu : X.A.units + 64 < cLine) : OpR X (compareOp .NotEq) (rEqG' X.K (clOf X.mg) true) := by
  intro pins s σ H x y v u Q I rx ry h
  obtain ⟨ad, F, d, e, p, q, sub, hd, he, ep, eq, sp, sq, h⟩ := h
  obtain ⟨as, r1, _⟩ := hd.reads I sub rx ep
  obtain ⟨bs, r2, _⟩ := he.reads I sub ry eq
  exact SeqAt.compareNe_shaped r1 r2 sp sq hu ⟨.bl _, H, I, rfl, by simpa using h⟩
theorem op_eqG {X : Cx} (hu : X.A.units + 64 < cLine) : OpR X (compareOp .Eq) (rEqG X.K (clOf X.mg) false) := opr_or op_eqSt (op_eqG' hu)
theorem op_neG {X : Cx} (hu : X.A.units + 64 < cLine) : OpR X (compareOp .NotEq) (rEqG X.K (clOf X.mg) true) := opr_or op_neSt (op_neG' hu)
section
variable {K : PySem.W.Frag} {cl : Cl}
theorem sn_eq {neg : Bool} : OpSn K cl (rEqG K cl neg) (eqD neg) := by
  intro ad F H x y d e z Q sub hx hy hz q
  have go : eqD' neg d e = some z → rEqG K cl neg x y H Q := fun hz => by
    unfold eqD' at hz
    cases h1 : toPy d with
    | none => rw [h1] at hz; cases hz
    | some p =>
      cases h2 : toPy e with
      | none => rw [h1, h2] at hz; cases hz
      | some r =>
        rw [h1, h2] at hz
        obtain ⟨c, rfl⟩ := chk_some hz
        rw [Bool.and_eq_true] at c
        exact .inr ⟨ad, F, d, e, p, r, sub, hx, hy, h1, h2, c.1, c.2, q _ H F (New.refl sub) (.bl _)⟩
  unfold eqD at hz
  split at hz
  · cases hx; cases hy; cases hz
    exact .inl (.inl ⟨_, _, rfl, rfl, q _ H F (New.refl sub) (.bl _)⟩)
  · cases hx; cases hy; cases hz
    exact .inl (.inr ⟨_, _, rfl, rfl, q _ H F (New.refl sub) (.bl _)⟩)
  · exact go hz
end
end G
namespace G
open PySem PySem.Spec PyProof.Rows L2
section
variable {K : PySem.W.Frag} {cl : Cl} {ad : Ad} {F H : Hp}
mutual
theorem Den.dp (sub : Same F H) : ∀ {d : D} {v : V} {p : PyData}, Den K cl ad F v d → toPy d = some p → p.canLay0 = true → Dp K H v p
  | .non, _, _, .non, e, _ => by cases e; exact .non
  | .bl _, _, _, .bl _, e, _ => by cases e; exact .bl _
  | .int _, _, _, .int _, e, _ => by cases e; exact .int _
  | .str _, _, _, .str _, e, _ => by cases e; exact .str _
  | .tup _, _, _, .tup h a, e, c => by
    obtain ⟨ps, e1, e2⟩ := Option.map_eq_some_iff.mp e
    subst e2
    exact .tup (tup_same sub h) (DenA.dp sub a e1 c)
  | .lst _, _, _, .lst h a, e, c => by
    obtain ⟨ps, e1, e2⟩ := Option.map_eq_some_iff.mp e
    subst e2
    exact .lst (SqL.of (sub _ _ h)) (DenA.dp sub a e1 c)
  | .dct _, _, _, .dct h a, e, c => by
    obtain ⟨ps, e1, e2⟩ := Option.map_eq_some_iff.mp e
    subst e2
    cases c
theorem DenA.dp (sub : Same F H) : ∀ {ds : List D} {vs : List V} {ps : List PyData}, DenA K cl ad F vs ds → toPys ds = some ps → PyData.canLayAll0 ps = true → DpAll K H vs ps
  | [], _, _, .nil, e, _ => by cases e; exact .nil
  | d :: ds, _, _, .cons h1 h2, e, c => by
    obtain ⟨p, r, rfl, e1, e2⟩ := toPys_cons e
    unfold PyData.canLayAll0 at c
    rw [Bool.and_eq_true] at c
    exact .cons (Den.dp sub h1 e1 c.1) (DenA.dp sub h2 e2 c.2)
end
end
/-! ### < <= > >= -/
section
variable {K : PySem.W.Frag} {cl : Cl}
def geD : D → D → Option D := iD fun i j => .bl (decide (j ≤ i))
theorem sn_ge : OpSn K cl (rI0 fun i j => .bl (decide (j ≤ i))) geD := sn_i0 fun _ _ _ _ => .bl _
/-! ### in, not in -/
def inD (neg : Bool) : D → D → Option D
  | .str x, .str z => match x.cps.toList with
    | [c] => some (.bl (neg ^^ decide (c ∈ z.cps.toList)))
    | _ => none
  | d, .lst es => match toPy d, toPys es with
    | some p, some ps => chk (SeqAt.shaped p && SeqAt.shaped (.list ps)) (.bl (neg ^^ ps.any fun z => PyData.eqv z p))
    | _, _ => none
  | _, _ => none
end
/-! ### items, slices -/
def ixD : D → D → Option D
  | .lst xs, .int i => atI xs i
  | .tup xs, .int i => atI xs i
  | .str z, .int i => match atI z.cps.toList i with
    | some c => chk (decide (z.length ≤ sizeLine)) (.str (sgn c))
    | none => none
  | _, _ => none
section
variable {K : PySem.W.Frag} {cl : Cl} {ad : Ad} {F : Hp}
theorem DenA.atI {vs : List V} {ds : List D} {i : Int} {z : D} (h : DenA K cl ad F vs ds) (e : L2.atI ds i = some z) : ∃ v, L2.atI vs i = some v ∧ Den K cl ad F v z := by
  unfold L2.atI at e ⊢
  rw [h.length]
  cases q : ixN ds.length i with
  | none => rw [q] at e; cases e
  | some j =>
    rw [q] at e
    obtain ⟨x, h1, h2⟩ := h.get (i := j) (y := z) e
    exact ⟨x, h1, h2⟩
theorem sn_ix : OpSn K cl (rIx K) ixD := by
  intro ad F H x y d e z Q sub hx hy hz q
  cases hy with
  | int i =>
    cases hx with
    | lst h a =>
      obtain ⟨v, h1, h2⟩ := a.atI hz
      exact .inl ⟨_, _, i, v, rfl, rfl, SqL.of (sub _ _ h), h1, q _ H F (New.refl sub) h2⟩
    | tup h a =>
      obtain ⟨v, h1, h2⟩ := a.atI hz
      exact .inr (.inl ⟨_, _, i, v, rfl, rfl, tup_same sub h, h1, q _ H F (New.refl sub) h2⟩)
    | str t =>
      unfold ixD at hz
      cases e1 : L2.atI t.cps.toList i with
      | none => simp only [e1] at hz; cases hz
      | some c =>
        simp only [e1] at hz
        obtain ⟨c1, rfl⟩ := chk_some hz
        exact .inr (.inr ⟨t, i, c, rfl, rfl, of_decide_eq_true c1, e1, q _ H F (New.refl sub) (.str _)⟩)
    | _ => cases hz
  | _ => cases hx <;> cases hz
end
section
variable {X : Cx} {W : WX} {a b : Expr} {ra rb : TE} {ta tb : ME D} {pos : Pos}
theorem u_ix (ha : UE X W ra ta a) (hb : UE X W rb tb b) (hs : PlainIx b := by exact fun _ _ => rfl) : UE X W (tOp (rIx X.K) ra rb) (dOp ixD ta tb) (.Subscript a b pos) :=
  ⟨pe_ix ix_seq ha.pe hb.pe hs, sn_op sn_ix ha.sn hb.sn⟩
/-- a part of a slice -/
structure UO (X : Cx) (W : WX) (r : TO) (t : ME (Option Int)) (e : Option Expr) : Prop where
  po : PO X e r
  sn : Sn X.K (clOf X.mg) W (fun _ _ v d => v = d) r t
theorem uo_none : UO X W tNoPart (ep none) none := ⟨po_none, fun ad σ H F s k Q rel p => p.ok0 (a := none) rel rfl⟩
def intOf : D → Option (Option Int)
  | .int i => some (some i)
  | _ => none
theorem uo_some (h : UE X W ra ta a) : UO X W (tPart ra) (eb ta fun d => eo (intOf d)) (some a) := by
  refine ⟨po_some h.pe, fun ad σ H F s k Q rel p => ?_⟩
  refine h.sn.bind rel p fun x d H1 F1 k1 _ r1 x1 d1 p1 => ?_
  obtain ⟨z, hz, p3⟩ := p1.eo
  cases d1 with
  | int i => cases hz; exact ⟨i, rfl, p3.ok0 r1 rfl⟩
  | _ => cases hz
def cutD (xs : List D) (lo hi : Option Int) : List D := (xs.drop (HT.sIx xs.length 0 lo)).take (HT.sIx xs.length xs.length hi - HT.sIx xs.length 0 lo)
def sliceD : D → Option Int → Option Int → Option D
  | .lst xs, lo, hi => some (.lst (cutD xs lo hi))
  | .tup xs, lo, hi => some (.tup (cutD xs lo hi))
  | .str z, lo, hi => chk (decide (z.length ≤ sizeLine)) (.str (cutS z lo hi))
  | .scr ns, lo, hi => some (.lst (cutD (ns.map D.int) lo hi))
  | _, _, _ => none
def rSl (K : PySem.W.Frag) : V → Option Int → Option Int → Hp → VK → Prop := fun x lo hi H Q => rSlL K x lo hi H Q ∨ rSlA K x lo hi H Q ∨ rSlS x lo hi H Q
def dSlice (t : ME D) (lo hi : ME (Option Int)) : ME D := eb t fun d => eb lo fun l => eb hi fun h => eo (sliceD d l h)
theorem cut_den {K : PySem.W.Frag} {cl : Cl} {ad : Ad} {F : Hp} {vs : List V} {ds : List D} (h : DenA K cl ad F vs ds) (lo hi : Option Int) : DenA K cl ad F (cutV vs lo hi) (cutD ds lo hi) := by
  unfold cutV cutD
  rw [h.length]
  exact (h.drop _).take _
theorem ints_den {K : PySem.W.Frag} {cl : Cl} {ad : Ad} {F : Hp} : ∀ ns : List Int, DenA K cl ad F (ns.map V.int) (ns.map D.int)
  | [] => .nil
  | n :: ns => .cons (.int n) (ints_den ns)
theorem u_slice {lo hi : Option Expr} {rl rh : TO} {tl th : ME (Option Int)} {p2 : Pos} (h : UE X W ra ta a) (hl : UO X W rl tl lo) (hh : UO X W rh th hi) : UE X W (tSl (rSl X.K) ra rl rh) (dSlice ta tl th) (.Subscript a (.Slice lo hi none p2) pos) := by
  refine ⟨pe_slice (sl_list.or (sl_tupA.or sl_str)) h.pe hl.po hh.po, fun ad σ H F s k Q rel p => ?_⟩
  refine h.sn.bind rel p fun x d H1 F1 k1 _ r1 x1 d1 p1 => ?_
  refine hl.sn.bind r1 p1 fun l l' H2 F2 k2 _ r2 x2 d2 p2 => ?_
  refine hh.sn.bind r2 p2 fun u u' H3 F3 k3 _ r3 x3 d3 p3 => ?_
  subst d2 d3
  obtain ⟨z, hz, p4⟩ := p3.eo
  have d1' := (d1.mono x2.sub).mono x3.sub
  cases d1' with
  | @lst b xs ds h1 a1 =>
    cases hz
    refine .inl ⟨_, _, rfl, SqL.of (r3.sub _ _ h1), fun q hq => ?_⟩
    have n := New.one (o := .lst (cutV xs l u)) r3.sub hq
    exact p4.ok r3 n (.lst upd_same ((cut_den a1 l u).mono n.sub))
  | @tup b xs ds h1 a1 =>
    cases hz
    refine .inr (.inl ⟨_, _, rfl, tup_same r3.sub h1, fun c => ?_, fun c q hq => ?_⟩)
    · refine p4.ok0 r3 (.tup h1 ?_)
      have e : cutV xs l u = xs := by
        unfold cutV
        rw [c.1, c.2, List.drop_zero, Nat.sub_zero, List.take_length]
      have := cut_den a1 l u
      rw [e] at this
      exact this
    · have n := New.one (o := .tup (cutV xs l u)) r3.sub hq
      exact p4.ok r3 n (.tup upd_same ((cut_den a1 l u).mono n.sub))
  | str t =>
    obtain ⟨c, rfl⟩ := chk_some hz
    exact .inr (.inr ⟨t, rfl, of_decide_eq_true c, p4.ok0 r3 (.str _)⟩)
  | @scr b ns h1 =>
    cases hz
    refine .inl ⟨_, _, rfl, r3.sub.seq h1, fun q hq => ?_⟩
    have n := New.one (o := .lst (cutV (ns.map V.int) l u)) r3.sub hq
    exact p4.ok r3 n (.lst upd_same (cut_den (ints_den ns) l u))
  | _ => cases hz
end
/-! ### built-ins -/
section
variable {K : PySem.W.Frag} {cl : Cl}
theorem call1 {r : List V → Hp → VK → Prop} {f : List D → Option D} {g : D → Option D} (hf : ∀ ds z, f ds = some z → ∃ d, ds = [d] ∧ g d = some z)
    (h : ∀ ad F H x d z Q, Same F H → Den K cl ad F x d → g d = some z → (∀ v H' F', New F H F' H' → Den K cl ad F' v z → Q v H') → r [x] H Q) : CallSn K cl r f := by
  intro ad F H xs ds z Q sub hx hz q
  obtain ⟨d, rfl, hg⟩ := hf ds z hz
  cases hx with
  | cons a b => cases b; exact h ad F H _ d z Q sub a hg q
def one (g : D → Option D) : List D → Option D
  | [d] => g d
  | _ => none
theorem one_of {g : D → Option D} : ∀ ds z, one g ds = some z → ∃ d, ds = [d] ∧ g d = some z
  | [d], z, h => ⟨d, rfl, h⟩
  | [], z, h => nomatch h
  | _ :: _ :: _, z, h => nomatch h
/-- len -/
def rLens (K : PySem.W.Frag) : List V → Hp → VK → Prop := fun xs H Q => (∃ p ys, xs = [.ref p] ∧ (SqL K H p ys ∨ SqT K H p ys) ∧ Q (.int ys.length) H) ∨ (∃ z : Str, xs = [.str z] ∧ z.length ≤ sizeLine ∧ Q (.int z.length) H)
theorem call_lens {X : Cx} : CallR X (.builtin "len") (rLens X.K) := fun pins s σ H xs us Q I r h => h.elim (call_len_seq pins s σ H xs us Q I r) (call_len_str pins s σ H xs us Q I r)
def lenD : D → Option D
  | .lst xs => some (.int xs.length)
  | .tup xs => some (.int xs.length)
  | .str z => chk (decide (z.length ≤ sizeLine)) (.int z.length)
  | _ => none
theorem sn_len : CallSn K cl (rLens K) (one lenD) := call1 one_of fun ad F H x d z Q sub hx hz q => by
  cases hx with
  | lst h a => cases hz; refine .inl ⟨_, _, rfl, .inl (SqL.of (sub _ _ h)), ?_⟩; rw [a.length]; exact q _ H F (New.refl sub) (.int _)
  | tup h a => cases hz; refine .inl ⟨_, _, rfl, .inr (tup_same sub h), ?_⟩; rw [a.length]; exact q _ H F (New.refl sub) (.int _)
  | str t => obtain ⟨c, rfl⟩ := chk_some hz; exact .inr ⟨t, rfl, of_decide_eq_true c, q _ H F (New.refl sub) (.int _)⟩
  | _ => cases hz
/-- int -/
def intD : D → Option D
  | .int i => some (.int i)
  | .bl b => some (.int (if b then 1 else 0))
  | _ => none
theorem sn_int : CallSn K cl (fun xs H Q => (∃ i, xs = [.int i] ∧ Q (.int i) H) ∨ ∃ k, xs = [.bl k] ∧ Q (.int (if k then 1 else 0)) H) (one intD) := call1 one_of fun ad F H x d z Q sub hx hz q => by
  cases hx with
  | int i => cases hz; exact .inl ⟨i, rfl, q _ H F (New.refl sub) (.int _)⟩
  | bl b => cases hz; exact .inr ⟨b, rfl, q _ H F (New.refl sub) (.int _)⟩
  | _ => cases hz
/-- str(n) -/
def strD : D → Option D
  | .int i => chk (decide (i.natAbs.log2 < 1920)) (.str (toString i))
  | _ => none
theorem sn_str : CallSn K cl (fun xs H Q => ∃ i, xs = [.int i] ∧ i.natAbs.log2 < 1920 ∧ Q (.str (toString i)) H) (one strD) := call1 one_of fun ad F H x d z Q sub hx hz q => by
  cases hx with
  | int i => obtain ⟨c, rfl⟩ := chk_some hz; exact ⟨i, rfl, of_decide_eq_true c, q _ H F (New.refl sub) (.str _)⟩
  | _ => cases hz
def rLstOf (K : PySem.W.Frag) : List V → Hp → VK → Prop := fun xs H Q => ∃ p ys, xs = [.ref p] ∧ (SqL K H p ys ∨ SqT K H p ys) ∧ ∀ l, H l = none → Q (.ref l) (upd H l (.lst ys))
end
end G
namespace G
open PySem PySem.Spec PyProof.Rows L2
/-! ### isinstance with a built-in class -/
section
variable {X : Cx} {W : WX} {pos : Pos}
/-! ### repr -/
/-! ### list(x) of a text too -/
def rLists (K : PySem.W.Frag) : List V → Hp → VK → Prop := fun xs H Q => rLstOf K xs H Q ∨ ∃ z : Str, xs = [.str z] ∧ z.length ≤ sizeLine ∧ ∀ l, H l = none → Q (.ref l) (upd H l (.lst (z.cps.toList.map fun c => V.str (sgn c))))
theorem call_lists (hc : X.calm = true) : CallR X (.type "list") (rLists X.K) := by
  intro pins s σ H xs us Q I r h
  rcases h with h | ⟨z, rfl, hz, q⟩
  · exact call_list_of pins s σ H xs us Q I r h
  · obtain ⟨u, rfl, rx⟩ := vals1 r
    obtain ⟨t, rfl⟩ := rx
    refine call_list_str (I.ok.hd hc) z t (fun h' tk acc c kp e it => ?_) hz
    refine ⟨.ref s.heap.objs.size, _, I.laid (t' := tk) kp (Nat.le_refl _) (show ObjOk X.prog X.w _ h' _ (.lst (z.cps.toList.map fun c => V.str (sgn c))) from ⟨by rw [List.length_map, Array.length_toList]; exact hz, acc.toList, c, ?_, by rw [Array.toArray_toList]; exact e⟩), rfl, q _ (I.hok.fresh (Nat.le_refl _))⟩
    have key : ∀ (l : List Nat) (vs : List Value), vs.length = l.length → (∀ (j : Nat) v, vs[j]? = some v → ∃ c u, l[j]? = some c ∧ v = .str (sgn c) u) → Vals (l.map fun c => V.str (sgn c)) vs := by
      intro l
      induction l with
      | nil => intro vs hl _; cases vs with
        | nil => exact .nil
        | cons _ _ => cases hl
      | cons c l ih =>
        intro vs hl hv
        cases vs with
        | nil => cases hl
        | cons v vs =>
          obtain ⟨c', u, e1, e2⟩ := hv 0 v rfl
          cases e1
          exact .cons ⟨u, e2⟩ (ih vs (by simpa using hl) fun j w hw => hv (j + 1) w hw)
    refine key _ _ (by rw [Array.length_toList, Array.length_toList]; exact it.1) fun j v hv => ?_
    obtain ⟨c, u, e1, e2⟩ := it.2 j v (by rw [← Array.getElem?_toList]; exact hv)
    exact ⟨c, u, by rw [Array.getElem?_toList]; exact e1, e2⟩
def lstsD : D → Option D
  | .lst ds => some (.lst ds)
  | .tup ds => some (.lst ds)
  | .str z => chk (decide (z.length ≤ sizeLine)) (.lst (signs z))
  | _ => none
theorem signs_den {K : PySem.W.Frag} {cl : Cl} {ad : Ad} {F : Hp} : ∀ l : List Nat, DenA K cl ad F (l.map fun c => V.str (sgn c)) (l.map fun c => D.str (sgn c))
  | [] => .nil
  | c :: l => .cons (.str _) (signs_den l)
theorem sn_lists {K : PySem.W.Frag} {cl : Cl} : CallSn K cl (rLists K) (one lstsD) := call1 one_of fun ad F H x d z Q sub hx hz q => by
  cases hx with
  | @lst b xs ds h a =>
    cases hz
    refine .inl ⟨_, _, rfl, .inl (SqL.of (sub _ _ h)), fun l hl => ?_⟩
    have n := New.one (o := .lst xs) sub hl
    exact q _ _ _ n (.lst upd_same (a.mono n.sub))
  | @tup b xs ds h a =>
    cases hz
    refine .inl ⟨_, _, rfl, .inr (tup_same sub h), fun l hl => ?_⟩
    have n := New.one (o := .lst xs) sub hl
    exact q _ _ _ n (.lst upd_same (a.mono n.sub))
  | str t =>
    obtain ⟨c, rfl⟩ := chk_some hz
    refine .inr ⟨t, rfl, of_decide_eq_true c, fun l hl => ?_⟩
    have n := New.one (o := .lst (t.cps.toList.map fun c => V.str (sgn c))) sub hl
    exact q _ _ _ n (.lst upd_same (signs_den _))
  | _ => cases hz
/-! ### text[::-1] -/
def revS (z : Str) : Str := ⟨z.cps.toList.reverse.toArray⟩
variable {a b c : Expr} {ra rb rc : TE} {ta tb tc : ME D}
def tRevS (K : PySem.W.Frag) (te : TE) : TE := fun σ H Q => te σ H fun x H1 => (∃ z, x = .str z ∧ z.length ≤ sizeLine ∧ Q (.str (revS z)) H1) ∨ ∃ a xs, x = .ref a ∧ SqL K H1 a xs ∧ ∀ p, H1 p = none → Q (.ref p) (upd H1 p (.lst xs.reverse))
theorem vals_rev : ∀ {xs : List V} {us : List Value}, Vals xs us → Vals xs.reverse us.reverse
  | _, _, .nil => .nil
  | _, _, .cons r t => by
    rw [List.reverse_cons, List.reverse_cons]
    exact (vals_rev t).append (.cons r .nil)
theorem pe_revS {i : Int} {j : Nat} {p1 p2 p3 : Pos} (hi : i = 1) (h : PE X a ra) : PE X (.Subscript a (.Slice none none (some (.UnaryOp .USub (.Constant (.int i) j p1) p2)) p3) pos) (tRevS X.K ra) := by
  subst hi
  refine ⟨fun pins s σ H Q I hw => ?_⟩
  refine Subscript_ (thn (h.run pins s σ H _ I hw) fun v s1 ⟨x, H1, I1, r1, q⟩ => ?_)
  refine wpAny_Slice ?_
  rw [evalPart_none]
  refine wpAny_pure (wpAny_pure ?_)
  rw [evalPart_some]
  have hstep : PE X (.UnaryOp .USub (.Constant (.int 1) j p1) p2) (tUn (rU fun i => .int (-i)) (tC (.int 1))) := pe_un un_neg pe_int
  refine thn (hstep.run pins s1 σ H1 (fun v H' => v = .int (-1) ∧ H' = H1) I1 ⟨1, rfl, rfl, rfl⟩) fun w s2 ⟨v2, H2, I2, r2, e2, e3⟩ => ?_
  subst e2 e3
  obtain ⟨t2, rfl⟩ := r2
  have I3 : Inv X pins σ H2 { s2 with heap := s2.heap.push { cls := .type "slice", data := .fields #[.none, .none, .int (-1) t2] } } := I2.kept (t' := s2.toks) fun b ob q => Heap.get?_push_of_some _ q
  rcases q with ⟨z, ez, hz, q⟩ | ⟨l, xs, ez, hq, q⟩
  · subst ez
    obtain ⟨t, rfl⟩ := r1
    have key : slicePicked z none none (some (-1, t2)) = (List.range z.length).reverse := by
      show Builtin.Str.strSliceIndices none none (-1) z.length = _
      rw [← PySem.W.krv_range, ← PySem.W.krv_sliceRange]
      rfl
    refine tail_any (T := "str") (ops := [.ref s2.heap.objs.size, .str z t]) (typeIs_str _ _ _) PySem.F.slot_str_getitem.lookup (wpAny_getItem_str_slice (l := none) (u := none) (st := some (-1, t2)) ⟨_, Heap.get?_push_size _ rfl, rfl, rfl⟩ rfl ?_) (by with_unfolding_all rfl)
    have hne : (((some ((-1 : Int), t2)).map (·.1)).getD 1 == 1 && (slicePicked z none none (some (-1, t2))).length == z.length) = false := by
      rw [Bool.and_eq_false_iff]; exact .inl rfl
    unfold sliceMade
    rw [if_neg (by rw [hne]; exact Bool.false_ne_true), key]
    have e : ((List.range z.length).reverse.filterMap (z.cps[·]?)) = z.cps.toList.reverse := by
      rw [List.filterMap_reverse]
      exact congrArg List.reverse (PySem.W.krv_all z.cps)
    rw [e]
    refine ⟨?_, .str (revS z), H2, I3.tok _, ⟨_, rfl⟩, q⟩
    show (z.cps.toList.reverse.toArray).size ≤ sizeLine
    rw [List.size_toArray, List.length_reverse, Array.length_toList]
    exact hz
  · subst ez
    cases r1
    obtain ⟨its, rv, pl, hz⟩ := I3.list hq
    have hn := rv.length
    refine tail_any (T := "list") (ops := [.ref l, .ref s2.heap.objs.size]) pl.isList.typeIs PySem.F.slot_list_getitem.lookup (wpAny_getItem_list_slice (lo := none) (hi := none) (st := some (-1)) pl.isList (Heap.IsSliceOf.new ..) .none .none (.int _ _) (by decide) ?_ (by rw [List.size_toArray]; omega)) (by with_unfolding_all rfl)
    rw [PySem.W.krv_pick]
    refine ⟨.ref _, _, I3.laid (t' := s2.toks) (fun b o e => Heap.get?_push_of_some _ e) (Nat.le_refl _) (show ObjOk X.prog X.w _ _ _ (.lst xs.reverse) from ⟨by rw [List.length_reverse]; exact hz, its.reverse, 0, vals_rev rv, Heap.get?_push_size _ rfl⟩), rfl, q _ (I3.hok.fresh (Nat.le_refl _))⟩
def revD : D → Option D
  | .str z => chk (decide (z.length ≤ sizeLine)) (.str (revS z))
  | .lst xs => some (.lst xs.reverse)
  | _ => none
theorem u_revS {i : Int} {j : Nat} {p1 p2 p3 : Pos} (h : UE X W ra ta a) (hi : i = 1 := by rfl) : UE X W (tRevS X.K ra) (dUn revD ta) (.Subscript a (.Slice none none (some (.UnaryOp .USub (.Constant (.int i) j p1) p2)) p3) pos) := by
  refine ⟨pe_revS hi h.pe, fun ad σ H F s k Q rel p => ?_⟩
  refine h.sn.bind rel p fun x d H1 F1 k1 _ r1 x1 d1 p1 => ?_
  obtain ⟨z, hz, p3⟩ := p1.eo
  cases d1 with
  | str t => obtain ⟨c, rfl⟩ := chk_some hz; exact .inl ⟨t, rfl, of_decide_eq_true c, p3.ok0 r1 (.str _)⟩
  | @lst b xs ds h a =>
    cases hz
    refine .inr ⟨b, xs, rfl, SqL.of (r1.sub _ _ h), fun q hq => ?_⟩
    have n := New.one (o := .lst xs.reverse) r1.sub hq
    exact p3.ok r1 n (.lst upd_same (a.reverse.mono n.sub))
  | _ => cases hz
/-! ### a <= b <= c -/
/-! ### methods -/
/-- a receiver of this type -/
def okTy (T : String) : D → Bool
  | .str _ => T == "str"
  | .lst _ => T == "list"
  | .dct _ => T == "dict"
  | _ => false
def dMethT (T : String) (f : D → List D → Option D) (to : ME D) (te : ME (List D)) : ME D := eb to fun x => match okTy T x with
  | true => eb te fun xs => eo (f x xs)
  | false => fun _ _ => .no
theorem tyV_of {K : PySem.W.Frag} {cl : Cl} {ad : Ad} {F H : Hp} {T : String} {x : V} {d : D} (sub : Same F H) (h : Den K cl ad F x d) (c : okTy T d = true) : tyV K T x H := by
  cases h with
  | str z => exact beq_iff_eq.mp c
  | lst h a => exact .inl ⟨beq_iff_eq.mp c, _, SqL.of (sub _ _ h)⟩
  | dct h a => exact .inr (.inr (.inl ⟨beq_iff_eq.mp c, .inl ⟨_, sub _ _ h⟩⟩))
  | _ => cases c
def MtS (K : PySem.W.Frag) (cl : Cl) (r : V → List V → Hp → VK → Prop) (f : D → List D → Option D) : Prop :=
  ∀ ad F H x xs d ds z Q, Same F H → Den K cl ad F x d → DenA K cl ad F xs ds → f d ds = some z → (∀ v H' F', New F H F' H' → Den K cl ad F' v z → Q v H') → r x xs H Q
variable {es : List Expr} {re : TA} {te : ME (List D)}
theorem sn_meth {K : PySem.W.Frag} {cl : Cl} {T : String} {r : V → List V → Hp → VK → Prop} {f : D → List D → Option D} (h : MtS K cl r f) (ho : Sn K cl W (RD K cl) ra ta) (ha : Sn K cl W (RA K cl) re te) : Sn K cl W (RD K cl) (tBM K T r ra re) (dMethT T f ta te) := by
  intro ad σ H F s k Q rel p
  refine ho.bind rel p fun x d H1 F1 k1 _ r1 x1 d1 p1 => ?_
  cases c : okTy T d with
  | true =>
    rw [c] at p1
    refine ⟨tyV_of r1.sub d1 c, ha.bind r1 p1 fun xs ds H2 F2 k2 _ r2 x2 d2 p2 => ?_⟩
    obtain ⟨z, hz, p3⟩ := p2.eo
    exact h ad F2 H2 x xs d ds z Q r2.sub (d1.mono x2.sub) d2 hz fun v H' F' n dv => p3.ok r2 n dv
  | false => rw [c] at p1; exact False.elim p1
theorem u_meth {o : Expr} {name : Str} {apos cpos : Pos} {T id : String} {r : V → List V → Hp → VK → Prop} {f : D → List D → Option D} (pa : PlainAttrs T) (slot : Slot T name id) (hty : typeOf (.builtin id) = pure (.type "method_descriptor")) (hm : MtR X id r) (hs' : MtS X.K (clOf X.mg) r f) (ho : UE X W ra ta o) (ha : UA X W re te (a :: es))
    (hbase : attributeBase o name X.env (eval o X.env) = eval o X.env := by rfl)
    (hfew : ((backTo cpos (starEach (a :: es) X.env)).all (fun x => !x.1) && (backToKw cpos (keywordEach [] X.env)).all (fun x => x.1.isSome)
      && decide ((a :: es).length + ([] : List Keyword).length + (if ([] : List Keyword).isEmpty then 0 else 1) < 30)) = true := by rfl)
    (hline : (apos.endLine == cpos.line) = true := by rfl) (hs : starEach (a :: es) X.env = (false, eval a X.env) :: starEach es X.env := by rfl) (hplain : (backTo cpos (starEach es X.env)).any (·.1) = false := by rfl) :
    UE X W (tBM X.K T r ra re) (dMethT T f ta te) (.Call (.Attribute o name apos) (a :: es) [] cpos) :=
  ⟨pe_bm pa slot hty hm ho.pe ha.pa hbase hfew hline hs hplain, sn_meth hs' ho.sn ha.sn⟩
/-- xs.index(x), x there -/
def firstAt (p : PyData) : List PyData → Nat → Option Nat
  | [], _ => none
  | q :: qs, n => if PyData.eqv q p = true then some n else firstAt p qs (n + 1)
def indexD : D → List D → Option D
  | .lst es, [d] => match toPy d, toPys es with
    | some p, some ps => match firstAt p ps 0 with
      | some j => chk (SeqAt.shaped p && SeqAt.shaped (.list ps)) (.int (j : Nat))
      | none => none
    | _, _ => none
  | _, _ => none
theorem firstAt_spec {p : PyData} : ∀ {qs : List PyData} {n j : Nat}, firstAt p qs n = some j → ∃ i z, j = n + i ∧ qs[i]? = some z ∧ PyData.eqv z p = true ∧ ∀ (m : Nat) z', m < i → qs[m]? = some z' → PyData.eqv z' p = false
  | [], n, j, h => nomatch h
  | q :: qs, n, j, h => by
    unfold firstAt at h
    by_cases c : PyData.eqv q p = true
    · rw [if_pos c] at h
      cases h
      exact ⟨0, q, rfl, rfl, c, fun m _ hm => absurd hm (Nat.not_lt_zero m)⟩
    · rw [if_neg c] at h
      obtain ⟨i, z, e1, e2, e3, e4⟩ := firstAt_spec h
      refine ⟨i + 1, z, by omega, e2, e3, fun m z' hm hz => ?_⟩
      cases m with
      | zero => cases hz; exact Bool.not_eq_true _ ▸ c
      | succ m => exact e4 m z' (by omega) hz
theorem sn_index {K : PySem.W.Frag} {cl : Cl} : MtS K cl (rIndexD K) indexD := by
  intro ad F H x xs d ds z Q sub hx hxs hz q
  cases hx with
  | @lst b vs es h a =>
    cases hxs with
    | nil => cases hz
    | @cons y ys d2 ds2 h1 r1 =>
      cases r1 with
      | cons _ _ => cases hz
      | nil =>
        unfold indexD at hz
        cases e1 : toPy d2 with
        | none => simp only [e1] at hz; cases hz
        | some p =>
          cases e2 : toPys es with
          | none => simp only [e1, e2] at hz; cases hz
          | some ps =>
            cases e3 : firstAt p ps 0 with
            | none => simp only [e1, e2, e3] at hz; cases hz
            | some j =>
              simp only [e1, e2, e3] at hz
              obtain ⟨c, rfl⟩ := chk_some hz
              rw [Bool.and_eq_true] at c
              obtain ⟨i, w, e4, e5, e6, e7⟩ := firstAt_spec e3
              rw [Nat.zero_add] at e4
              subst e4
              exact ⟨b, y, p, ps, j, w, rfl, rfl, .lst (SqL.of (sub _ _ h)) (a.dp sub e2 (SeqAt.canLay_of_shaped c.2)), h1.dp sub e1 (SeqAt.canLay_of_shaped c.1), c.2, c.1, e5, e6, e7, q _ H F (New.refl sub) (.int _)⟩
  | _ => cases hz
/-! ### lists of one's own -/
/-- a ghost: the list stops growing -/
def frz (i : Nat) : List Sl → List Sl := fun s => match s[i]? with
  | some (.own xs) => s.set i (.val xs)
  | _ => s
theorem RelS.frz {K : PySem.W.Frag} {cl : Cl} {ad : Ad} {H0 F0 : Hp} {k0 : Sk} {σ : L2.St} {H F : Hp} {s : List Sl} {k : Sk} (r : RelS K cl ad H0 F0 k0 σ H F s k) (i : Nat) : ∃ F', RelS K cl ad H0 F0 k0 σ H F' (G.frz i s) k ∧ Same F F' := by
  unfold G.frz
  cases q : s[i]? with
  | none => exact ⟨F, r, Same.refl _⟩
  | some z =>
    cases z with
    | emp => exact ⟨F, r, Same.refl _⟩
    | val d => exact ⟨F, r, Same.refl _⟩
    | own xs =>
      obtain ⟨b, vs, a1, a2, a3, a4, a5⟩ := r.rel.own i xs q
      have sF : Same F (upd F b vs) := fun c u e => by rw [upd_ne (ne_of_none e a3)]; exact e
      have sH : Same (upd F b vs) H := fun c u e => by
        by_cases hb : c = b
        · subst hb; rw [upd_same] at e; cases e; exact a2
        · rw [upd_ne hb] at e; exact r.rel.sub c u e
      have hl : i < s.length := (List.getElem?_eq_some_iff.mp q).1
      refine ⟨upd F b vs, ⟨⟨sH, by rw [List.length_set]; exact r.rel.len, fun j d h => ?_, fun j ys h => ?_, fun j1 j2 xs' ys c h1 h2 h3 h4 => ?_, r.rel.dk.frz a4 a3⟩, ⟨r.ext.some, r.ext.sub.trans sF, r.ext.keep, r.ext.there, r.ext.nofz.frz (r.fr i xs b q a1)⟩, fun j ys c h1 h2 => ?_⟩, sF⟩
      · by_cases e : i = j
        · subst e
          rw [List.getElem?_set_self hl] at h
          cases h
          exact ⟨.ref b, a1, (a5.mono sF).den upd_same⟩
        · rw [List.getElem?_set_ne e] at h
          obtain ⟨v, b1, b2⟩ := r.rel.val j d h
          exact ⟨v, b1, b2.mono sF⟩
      · obtain ⟨e, h'⟩ := own_set h
        obtain ⟨b', vs', b1, b2, b3, b4, b5⟩ := r.rel.own j ys h'
        have nb : b' ≠ b := fun z => e (r.rel.inj i j xs ys b q h' a1 (z ▸ b1))
        exact ⟨b', vs', b1, b2, by rw [upd_ne nb]; exact b3, b4, b5.mono sF⟩
      · obtain ⟨_, q1⟩ := own_set h1
        obtain ⟨_, q2⟩ := own_set h2
        exact r.rel.inj j1 j2 xs' ys c q1 q2 h3 h4
      · obtain ⟨_, h'⟩ := own_set h1
        exact r.fr j ys c h' h2
def sFrz (i : Nat) (t : MS) : MS := fun s k => t (frz i s) k
theorem us_frz {st : List Stmt} {r : TS} {t : MS} (i : Nat) (h : USs X W r t st) : USs X W r (sFrz i t) st :=
  ⟨h.ps, fun ad H0 F0 k0 σ H F s k E rel p => by
    obtain ⟨F', r', e⟩ := rel.frz i
    exact h.sn ad H0 F0 k0 σ H F' _ k E r' (p.from e)⟩
end
end G
namespace G
open PySem PySem.Spec PyProof.Rows L2
/-! ### an own list grows -/
theorem RelS.grow {K : PySem.W.Frag} {cl : Cl} {ad : Ad} {H0 F0 : Hp} {k0 : Sk} {σ : L2.St} {H F : Hp} {s : List Sl} {k : Sk} (r : RelS K cl ad H0 F0 k0 σ H F s k) {i : Nat} {xs ys : D} {b : Addr} {ws : HO} (q : s[i]? = some (Sl.own xs)) (hb : σ[i]? = some (some (V.ref b))) (hd : OwnOk K cl ad F ws ys) :
    RelS K cl ad H0 F0 k0 σ (upd H b ws) F (s.set i (.own ys)) k := by
  obtain ⟨b', vs, a1, a2, a3, a4, a5⟩ := r.rel.own i xs q
  rw [hb] at a1
  cases a1
  have hl : i < s.length := (List.getElem?_eq_some_iff.mp q).1
  have h0 : H0 b = none := r.fr i xs b q hb
  have other : ∀ {j : Nat} {zs : D}, (s.set i (.own ys))[j]? = some (Sl.own zs) → (i = j ∧ zs = ys) ∨ (i ≠ j ∧ s[j]? = some (Sl.own zs)) := fun {j zs} h => by
    by_cases e : i = j
    · subst e; rw [List.getElem?_set_self hl] at h; cases h; exact .inl ⟨rfl, rfl⟩
    · rw [List.getElem?_set_ne e] at h; exact .inr ⟨e, h⟩
  have was : ∀ {j : Nat} {zs : D}, (s.set i (.own ys))[j]? = some (Sl.own zs) → ∃ zs', s[j]? = some (Sl.own zs') := fun {j zs} h => by
    rcases other h with ⟨e, _⟩ | ⟨_, h'⟩
    · subst e; exact ⟨_, q⟩
    · exact ⟨_, h'⟩
  refine ⟨⟨same_upd' r.rel.sub a3, by rw [List.length_set]; exact r.rel.len, fun j d h => ?_, fun j zs h => ?_, fun j1 j2 zs ws' c h1 h2 h3 h4 => ?_, r.rel.dk.upd a4⟩, r.ext.upd h0, fun j zs c h1 h2 => ?_⟩
  · by_cases e : i = j
    · subst e; rw [List.getElem?_set_self hl] at h; cases h
    · rw [List.getElem?_set_ne e] at h; exact r.rel.val j d h
  · rcases other h with ⟨e, rfl⟩ | ⟨e, h'⟩
    · subst e; exact ⟨b, ws, hb, upd_same, a3, a4, hd⟩
    · obtain ⟨c, vs', b1, b2, b3, b4, b5⟩ := r.rel.own j zs h'
      have nb : c ≠ b := fun z => e (r.rel.inj i j xs zs b q h' hb (z ▸ b1))
      exact ⟨c, vs', b1, by rw [upd_ne nb]; exact b2, b3, b4, b5⟩
  · obtain ⟨u1, q1⟩ := was h1
    obtain ⟨u2, q2⟩ := was h2
    exact r.rel.inj j1 j2 u1 u2 c q1 q2 h3 h4
  · obtain ⟨u1, q1⟩ := was h1
    exact r.fr j u1 c q1 h2
section
variable {X : Cx} {W : WX} {pos : Pos} {a b c : Expr} {ra rb rc : TE} {ta tb tc : ME D}
/-- x.append(e), x a list of one's own -/
def sGrow (f : List D → D → Option (List D)) (i : Nat) (t : ME D) : MS := fun s k => match s[i]? with
  | some (.own (.lst xs)) => sb t (fun d => fun s k => match f xs d with
    | some ys => .nx (s.set i (.own (.lst ys))) k
    | none => .no) s k
  | _ => .no
/-- the reading of such a statement, by the list's method r -/
def tGrow (K : PySem.W.Frag) (r : V → List V → Hp → VK → Prop) (i : Nat) (ra : TE) : TS := tDrop (tBM K "list" r (tVar i) (tCons ra tNil))
def GrSn (K : PySem.W.Frag) (cl : Cl) (r : V → List V → Hp → VK → Prop) (f : List D → D → Option (List D)) : Prop :=
  ∀ ad F H b vs xs y d ys (Q : VK), Same F H → F b = none → H b = some (.lst vs) → DenA K cl ad F vs xs → Den K cl ad F y d → f xs d = some ys → (∀ ws, DenA K cl ad F ws ys → Q .non (upd H b (.lst ws))) → r (.ref b) [y] H Q
theorem sn_grow {K : PySem.W.Frag} {cl : Cl} {r : V → List V → Hp → VK → Prop} {f : List D → D → Option (List D)} {i : Nat} (hr : GrSn K cl r f) (h : Sn K cl W (RD K cl) ra ta) : SnS K cl W (tGrow K r i ra) (sGrow f i ta) := by
  intro ad H0 F0 k0 σ H F s k E rel p
  unfold sGrow at p
  cases y : s[i]? with
  | none => rw [y] at p; exact False.elim p
  | some sl =>
    rw [y] at p
    cases sl with
    | emp => exact False.elim p
    | val _ => exact False.elim p
    | own xx =>
      cases xx <;> try exact False.elim p
      rename_i xs
      obtain ⟨b, vso, a1, a2, a3, a4, a5⟩ := rel.rel.own i _ y
      obtain ⟨vs, rfl, a5⟩ := a5.lst
      refine ⟨.ref b, a1, .inl ⟨rfl, vs, SqL.of a2⟩, ?_⟩
      refine h.sbind rel p fun v d H1 F1 k1 _ r1 x1 d1 p1 => ?_
      obtain ⟨b', vso', c1, c2, c3, c4, c5⟩ := r1.rel.own i _ y
      obtain ⟨vs', rfl, c5⟩ := c5.lst
      rw [a1] at c1
      cases c1
      cases z : f xs d with
      | none => simp only [z] at p1; exact False.elim p1
      | some ys =>
        simp only [z] at p1
        exact hr ad F1 H1 b vs' xs v d ys _ r1.rel.sub c3 c2 c5 d1 z fun ws hw => p1 σ _ F1 (r1.grow (ws := .lst ws) (ys := .lst ys) y a1 hw) (Same.refl _)
def appF (xs : List D) (d : D) : Option (List D) := if xs.length < sizeLine then some (xs ++ [d]) else none
theorem gr_append {K : PySem.W.Frag} {cl : Cl} : GrSn K cl rAppend appF := by
  intro ad F H b vs xs y d ys Q sub hF hb hv hy e q
  unfold appF at e
  by_cases c : xs.length < sizeLine
  · rw [if_pos c] at e
    cases e
    exact ⟨b, vs, y, rfl, rfl, hb, by rw [hv.length]; exact c, q _ (hv.append (.cons hy .nil))⟩
  · rw [if_neg c] at e; cases e
theorem us_append {i : Nat} {x : Str} {xp apos cpos : Pos} (h : UE X W ra ta a) (hv : PE X (.Name x xp) (tVar i)) (hs : swapsWith (.Call (.Attribute (.Name x xp) "append" apos) [a] [] cpos) none pos.line X.env = pure false := by rfl)
    (hbase : attributeBase (.Name x xp) "append" X.env (eval (.Name x xp) X.env) = eval (.Name x xp) X.env := by rfl)
    (hfew : ((backTo cpos (starEach [a] X.env)).all (fun x => !x.1) && (backToKw cpos (keywordEach [] X.env)).all (fun x => x.1.isSome)
      && decide ([a].length + ([] : List Keyword).length + (if ([] : List Keyword).isEmpty then 0 else 1) < 30)) = true := by rfl)
    (hline : (apos.endLine == cpos.line) = true := by rfl) (hst : starEach [a] X.env = (false, eval a X.env) :: starEach [] X.env := by rfl) (hplain : (backTo cpos (starEach [] X.env)).any (·.1) = false := by rfl) :
    US X W (tGrow X.K rAppend i ra) (sGrow appF i ta) (.Expr (.Call (.Attribute (.Name x xp) "append" apos) [a] [] cpos) pos) :=
  ⟨ps_expr (pe_bm PySem.F.plainAttrs_list PySem.F.slot_list_append PySem.F.type_list_append mt_append hv (pa_cons h.pe pa_nil hst) hbase hfew hline hst hplain) hs, sn_grow gr_append h.sn⟩
/-! ### two fors in a comprehension -/
variable {tg tg1 elt iter iter1 : Expr} {ifs ifs1 : List Expr} {scope : Scope} {own : List (Str × Nat)} {is is1 vs1 : List Nat} {wi wi1 : TI} {ti ti1 : ME (List D)} {g g1 : TG} {f f1 : MG} {tt tt1 : TT} {dt dt1 : ME Bool} {te' : TE} {de : ME D}
end
end G
namespace G
open PySem PySem.Spec PyProof.Rows L2
/-! ### {k: v, ..} -/
abbrev RP (K : PySem.W.Frag) (cl : Cl) : Ad → Hp → List (V × V) → List (D × D) → Prop := fun ad F ps ds => DenA K cl ad F (ps.map (·.1)) (ds.map (·.1)) ∧ DenA K cl ad F (ps.map (·.2)) (ds.map (·.2))
structure UPs (X : Cx) (W : WX) (pos : Pos) (trs : List (TE × TE)) (t : ME (List (D × D))) (ks : List (Option Expr)) (vs : List Expr) : Prop where
  pp : PPs X pos ks vs trs
  sn : Sn X.K (clOf X.mg) W (RP X.K (clOf X.mg)) (tPairs trs) t
section
variable {X : Cx} {W : WX} {pos : Pos} {a b : Expr} {ra rb : TE} {ta tb : ME D} {trs : List (TE × TE)} {tp : ME (List (D × D))} {ks : List (Option Expr)} {vs : List Expr}
theorem ups_nil : UPs X W pos [] (ep []) [] [] := ⟨pps_nil, fun ad σ H F s k Q rel p => p.ok0 (a := []) rel ⟨.nil, .nil⟩⟩
def dPair (ta tb : ME D) (tp : ME (List (D × D))) : ME (List (D × D)) := eb ta fun x => eb tb fun y => eb tp fun r => ep ((x, y) :: r)
theorem ups_cons (ha : UE X W ra ta a) (hb : UE X W rb tb b) (hr : UPs X W pos trs tp ks vs) : UPs X W pos ((ra, rb) :: trs) (dPair ta tb tp) (some a :: ks) (b :: vs) := by
  refine ⟨pps_cons ha.pe hb.pe hr.pp, fun ad σ H F s k Q rel p => ?_⟩
  refine ha.sn.bind rel p fun x d H1 F1 k1 _ r1 x1 d1 p1 => ?_
  refine hb.sn.bind r1 p1 fun y e H2 F2 k2 _ r2 x2 d2 p2 => ?_
  refine hr.sn.bind r2 p2 fun ps ds H3 F3 k3 _ r3 x3 d3 p3 => ?_
  exact p3.ok0 (a := (d, e) :: ds) r3 ⟨.cons ((d1.mono x2.sub).mono x3.sub) d3.1, .cons (d2.mono x3.sub) d3.2⟩
def keysOf : List (D × D) → Option (List (Key × D))
  | [] => some []
  | (.int i, y) :: r => (keysOf r).map ((Sum.inl i, y) :: ·)
  | (.str x, y) :: r => (keysOf r).map ((Sum.inr x, y) :: ·)
  | _ => none
theorem keys_den {K : PySem.W.Frag} {cl : Cl} {ad : Ad} {F : Hp} : ∀ {ps : List (V × V)} {ds : List (D × D)} {es : List (Key × D)}, DenA K cl ad F (ps.map (·.1)) (ds.map (·.1)) → DenA K cl ad F (ps.map (·.2)) (ds.map (·.2)) → keysOf ds = some es →
    ∃ kvs : List (Key × V), ps = kvs.map (fun kv => (kV kv.1, kv.2)) ∧ DenK K cl ad F kvs es
  | [], [], es, _, _, e => by cases e; exact ⟨[], rfl, .nil⟩
  | [], _ :: _, _, h, _, _ => nomatch h
  | _ :: _, [], _, h, _, _ => nomatch h
  | (x, y) :: ps, (d, e') :: ds, es, .cons h1 h2, .cons h3 h4, e => by
    cases h1 with
    | int i =>
      obtain ⟨r, e1, e2⟩ := Option.map_eq_some_iff.mp e
      subst e2
      obtain ⟨kvs, q1, q2⟩ := keys_den h2 h4 e1
      exact ⟨(Sum.inl i, y) :: kvs, by rw [q1]; rfl, .cons h3 q2⟩
    | str x =>
      obtain ⟨r, e1, e2⟩ := Option.map_eq_some_iff.mp e
      subst e2
      obtain ⟨kvs, q1, q2⟩ := keys_den h2 h4 e1
      exact ⟨(Sum.inr x, y) :: kvs, by rw [q1]; rfl, .cons h3 q2⟩
    | _ => cases e
theorem denK_keys {K : PySem.W.Frag} {cl : Cl} {ad : Ad} {F : Hp} : ∀ {kvs : List (Key × V)} {es : List (Key × D)}, DenK K cl ad F kvs es → kvs.map (·.1) = es.map (·.1)
  | _, _, .nil => rfl
  | _, _, .cons _ h => by rw [List.map_cons, List.map_cons, denK_keys h]
theorem merge_nodup : ∀ (more acc : List (Key × V)), ((acc ++ more).map (·.1)).Nodup → mergeK acc more = acc ++ more
  | [], acc, _ => by rw [List.append_nil]; rfl
  | (k, v) :: r, acc, h => by
    have hk : (acc.any fun kv => decide (kv.1 = k)) = false := by
      rw [List.any_eq_false]
      intro p hp
      have h' := h
      rw [List.map_append, List.nodup_append] at h'
      have := h'.2.2 p.1 (List.mem_map_of_mem hp) k (by simp)
      simpa using this
    have e : putK acc k v = acc ++ [(k, v)] := by
      unfold putK
      rw [hk]
      rfl
    show mergeK (putK acc k v) r = _
    rw [e, merge_nodup r (acc ++ [(k, v)]) (by rw [List.append_assoc]; exact h), List.append_assoc]
    rfl
def dctOf (ds : List (D × D)) : Option D := match keysOf ds with
  | some es => chk (decide ((es.map (·.1)).Nodup) && decide (es.length ≤ 15)) (.dct es)
  | none => none
def dDict (tp : ME (List (D × D))) : ME D := eb tp fun ds => eo (dctOf ds)
theorem u_dict (h : UPs X W pos trs tp ks vs) (hall : ks.all (·.isSome) = true := by rfl) (hl : ks.length = vs.length := by rfl) (h0 : ks ≠ [] := by exact fun z => nomatch z) (h15 : ks.length ≤ 15 := by decide) : UE X W (tDisp trs) (dDict tp) (.Dict ks vs pos) := by
  refine ⟨pe_disp h.pp hall hl h0 h15, fun ad σ H F s k Q rel p q hq => ?_⟩
  have hF : F q = none := rel.sub.free hq
  have nd : Fre ad k q := rel.dk.fre hq
  have r0 : Rel X.K (clOf X.mg) ad σ (upd H q (.dK [])) F s k := rel.extd (Ext.refl.upd hq) (same_upd' rel.sub hF) (rel.dk.upd nd)
  have p0 : Post X.K (clOf X.mg) W (RD X.K (clOf X.mg)) ad σ H F s k (eb tp (fun ds => eo (dctOf ds)) s k) Q := p
  refine h.sn ad σ _ F s k _ r0 ?_
  unfold eb at p0
  cases w : tp s k with
  | no => rw [w] at p0; exact p0
  | ex c fs k1 =>
    rw [w] at p0
    exact fun cls dd H' F' r' x' e' => p0 cls dd H' F' r' ⟨x'.some, x'.sub, fun b o h n => x'.keep b o (by rw [upd_ne (ne_of_none h hq)]; exact h) n, fun b h => x'.there b (by
      have : b ≠ q := fun z => h (z ▸ hq)
      rw [upd_ne this]; exact h), fun b o h nt f => x'.nofz b o (by rw [upd_ne (ne_of_none h hq)]; exact h) nt f⟩ e'
  | ok ds k1 =>
    rw [w] at p0
    intro ps H2 F2 r2 x2 d2
    have hq2 : H2 q = some (.dK []) := x2.keep q _ upd_same nd
    have hF2 : F2 q = none := (x2.nofz q _ upd_same (fun _ z => nomatch z) hF).1
    refine ⟨hq2, ?_⟩
    obtain ⟨z, hz, p3⟩ : ∃ z, dctOf ds = some z ∧ Post X.K (clOf X.mg) W (RD X.K (clOf X.mg)) ad σ H F s k (.ok z k1) Q := by
      dsimp only [eo] at p0
      cases h : dctOf ds with
      | none => rw [h] at p0; exact False.elim p0
      | some z => rw [h] at p0; exact ⟨z, rfl, p0⟩
    unfold dctOf at hz
    cases e1 : keysOf ds with
    | none => rw [e1] at hz; cases hz
    | some es =>
      rw [e1] at hz
      obtain ⟨c, rfl⟩ := chk_some hz
      rw [Bool.and_eq_true, decide_eq_true_eq, decide_eq_true_eq] at c
      obtain ⟨kvs, q1, q2⟩ := keys_den d2.1 d2.2 e1
      have hkeys := denK_keys q2
      have hlen : kvs.length = es.length := by
        have := congrArg List.length hkeys
        rwa [List.length_map, List.length_map] at this
      refine ⟨kvs, q1, by rw [hlen]; exact c.2, ?_⟩
      have hm : mergeK [] kvs = kvs := merge_nodup kvs [] (by rw [List.nil_append, hkeys]; exact c.1)
      rw [hm]
      have sF : Same F2 (upd F2 q (.dK kvs)) := fun b u e => by rw [upd_ne (ne_of_none e hF2)]; exact e
      have sH : Same (upd F2 q (.dK kvs)) (upd H2 q (.dK kvs)) := fun b u e => by
        by_cases hb : b = q
        · subst hb; rw [upd_same] at e ⊢; exact e
        · rw [upd_ne hb] at e ⊢; exact r2.sub b u e
      have ex : Ext ad k k1 F H (upd F2 q (.dK kvs)) (upd H2 q (.dK kvs)) := ⟨x2.some, x2.sub.trans sF, fun b o h n => by
          have nb : b ≠ q := ne_of_none h hq
          rw [upd_ne nb]
          exact x2.keep b o (by rw [upd_ne nb]; exact h) n, fun b h => by
          have nb : b ≠ q := fun z => h (z ▸ hq)
          rw [upd_ne nb]
          exact x2.there b (by rw [upd_ne nb]; exact h), fun b o h nt f => by
          have nb : b ≠ q := ne_of_none h hq
          obtain ⟨f1, o1, h1, n1⟩ := x2.nofz b o (by rw [upd_ne nb]; exact h) nt f
          exact ⟨by rw [upd_ne nb]; exact f1, o1, by rw [upd_ne nb]; exact h1, n1⟩⟩
      exact p3 _ _ _ (rel.extd ex sH ((r2.dk.upd (nd.sh x2.some)).frz (nd.sh x2.some) hF2)) ex (.dct upd_same (q2.mono sF))
theorem u_dict0 : UE X W tDNewK (ep (.dct [])) (.Dict [] [] pos) := by
  refine ⟨pe_dnewK, fun ad σ H F s k Q rel p q hq => ?_⟩
  have n := New.one (o := .dK []) rel.sub hq
  exact p.ok (a := D.dct []) rel n (.dct upd_same .nil)
end
/-! ### text * n -/
def repS (x : Str) (n : Nat) : Str := ⟨(List.replicate n x.cps).foldl (· ++ ·) #[]⟩
abbrev rMulT : R2 := fun x y H Q => ∃ (z : Str) (n : Int), x = .str z ∧ y = .int n ∧ 2 ≤ n ∧ z.length ≠ 0 ∧ z.length * n.toNat ≤ sizeLine ∧ Q (.str (repS z n.toNat)) H
theorem op_mulT {X : Cx} : OpR X (binaryOp .Mult) rMulT := by
  intro pins s σ H x y v u Q I rx ry h
  obtain ⟨z, n, rfl, rfl, h2, h0, hl, q⟩ := h
  obtain ⟨t, rfl⟩ := rx
  obtain ⟨t', rfl⟩ := ry
  have hs := sizeLine_eq
  have h1 : n.toNat ≤ sizeLine := Nat.le_trans (by
    have : 1 * n.toNat ≤ z.length * n.toNat := Nat.mul_le_mul_right _ (by omega)
    omega) hl
  have c1 : (n == 1 || z.length == 0) = false := by
    rw [Bool.or_eq_false_iff]
    exact ⟨by simp; omega, by simpa using h0⟩
  refine PySem.P.mul_str ?_ (fun _ _ => ?_) (fun _ _ => ?_) ?_
  · rw [Bool.or_eq_false_iff, decide_eq_false_iff_not, decide_eq_false_iff_not]
    constructor <;> omega
  · have h3 : (z.length : Int) ≤ 16777216 := by
      have : z.length * 1 ≤ z.length * n.toNat := Nat.mul_le_mul_left _ (by omega)
      omega
    have h4 : (16777216 : Int) ≤ (2 ^ 63 - 1) / n := by
      rw [Int.le_ediv_iff_mul_le (by omega)]
      omega
    omega
  · show decide (_ > sizeLine) = false
    rw [decide_eq_false_iff_not]; omega
  · rw [if_neg (by omega), if_neg (by rw [c1]; exact Bool.false_ne_true)]
    refine ⟨?_, .str (repS z n.toNat), H, I.tok _, ⟨_, rfl⟩, q⟩
    have hlen : ∀ (m : Nat) (acc : Array Nat), ((List.replicate m z.cps).foldl (· ++ ·) acc).size = acc.size + m * z.cps.size := by
      intro m
      induction m with
      | zero => intro acc; simp
      | succ m ih =>
        intro acc
        rw [List.replicate_succ, List.foldl_cons, ih, Array.size_append, Nat.succ_mul]
        omega
    show (repS z n.toNat).cps.size ≤ sizeLine
    unfold repS
    rw [hlen]
    have e : z.length = z.cps.size := rfl
    rw [Nat.mul_comm, ← e]
    simp only [List.size_toArray, List.length_nil, Nat.zero_add]
    exact hl
def rMuls : R2 := rOr (rI CMulW fun i j => .int (i * j)) rMulT
theorem op_muls {X : Cx} : OpR X (binaryOp .Mult) rMuls := opr_or op_mulW op_mulT
def mulsD : D → D → Option D
  | .int i, .int j => chk (okMul i j) (.int (i * j))
  | .str z, .int n => chk (decide (2 ≤ n) && decide (z.length ≠ 0) && decide (z.length * n.toNat ≤ sizeLine)) (.str (repS z n.toNat))
  | _, _ => none
theorem sn_muls {K : PySem.W.Frag} {cl : Cl} : OpSn K cl rMuls mulsD := by
  intro ad F H x y d e z Q sub hx hy hz q
  cases hx with
  | int i =>
    cases hy with
    | int j =>
      obtain ⟨c, rfl⟩ := chk_some hz
      exact .inl ⟨i, j, rfl, rfl, (of_decide_eq_true c : i.natAbs.log2 + j.natAbs.log2 < 1000000), q _ H F (New.refl sub) (.int _)⟩
    | _ => cases hz
  | str t =>
    cases hy with
    | int n =>
      obtain ⟨c, rfl⟩ := chk_some hz
      rw [Bool.and_eq_true, Bool.and_eq_true, decide_eq_true_eq, decide_eq_true_eq, decide_eq_true_eq] at c
      exact .inr ⟨t, n, rfl, rfl, c.1.1, c.1.2, c.2, q _ H F (New.refl sub) (.str _)⟩
    | _ => cases hz
  | _ => cases hz
end G
namespace G
open PySem PySem.Spec PyProof.Rows L2
/-! ### the law's end -/
/-- what is asked of the law's def -/
def spL (K : PySem.W.Frag) (n : Nat) : Sp := fun vs H Q _ => ∃ (a : Addr) (ns : List Int), vs = [.ref a] ∧ ns.length ≤ n ∧ Only H ∧ SqL K H a (ns.map V.int) ∧ ∀ H', Q (.bl true) H'
/-- from an abstract heap that has the script alone -/
theorem end_core {P : Program} {w : World} {K : PySem.W.Frag} {mg mb : Str → Option Value} {k n : Nat} {fa a : Addr} {fd : FuncData} {x : Str} {s : Shared} {vs : List Value} {ns : List Int} {H : Hp}
    (KX : K.In s.heap) (hg : s.heap.Ns mainGlobals mg) (hb : s.heap.Ns builtinsNs mb) (hbb : ∀ x : Str, x ≠ "__name__" → mb x = bootBuiltins x) (hlim : s.heap.NoLimit) (hgens : s.gens = #[])
    (ha : s.heap.get? a = some { cls := .type "list", data := .seq vs.toArray }) (hl : ns.length ≤ n) (hr : Room k callerA)
    (F : ∀ base : Heap, K.In base → base.Ns mainGlobals mg → FnG P w K mg base k fa fd [x] (spL K n)) (hbind : ∀ (s : Shared) (u : Value), BindsTo s fd ⟨[u], []⟩ [(x, u)])
    (hO : Only H) (hS : SqL K H a (ns.map V.int)) (hok : HOk P w H s.heap) (alone : ∀ b o, H b = some o → b = a) (notK : ∀ o, H a = some o → K.lookup a = none) :
    codeAny (model P w) callerA (.call (.ref fa) ⟨[.ref a], []⟩) (fun r s' => r = .ok (.ret (.bool true)) ∧ OldK s.heap s'.heap ∧ s'.os = s.os ∧ AllBare s'.gens) s := by
  have free : ∀ b o, s.heap.get? b = some o → (∀ vs n, o.data ≠ .seq vs n) → H b = none := fun b o e nd => by
    cases q : H b with
    | none => rfl
    | some u =>
      have := alone b u q
      subst this
      rw [ha] at e
      cases e
      exact absurd rfl (nd _ _)
  have up : ∀ b o, s.heap.get? b = some o → H b = none → (hidT s.heap H).get? b = some o := fun b o e z => hidT_get e z
  have nsUp : ∀ b m, s.heap.Ns b m → (hidT s.heap H).Ns b m := fun b m h => by
    obtain ⟨o, es, ep, e, d, r⟩ := h
    exact ⟨o, es, ep, up b o e (free b o e fun vs n z => by rw [d] at z; cases z), d, r⟩
  have kUp : K.In (hidT s.heap H) := fun b o e => up b o (KX b o e) (by
    cases q : H b with
    | none => rfl
    | some u =>
      have := alone b u q
      subst this
      rw [notK u q] at e; cases e)
  have mod : Mod K mg (hidT s.heap H) := ⟨kUp, nsUp _ _ hg, ⟨mb, nsUp _ _ hb, hbb⟩, by
    obtain ⟨mc, h1, h2⟩ := hlim
    exact ⟨mc, nsUp _ _ h1, h2⟩⟩
  have e0 : Env0 P w K mg (hidT s.heap H) callerA [] s H := {
    frames := rfl
    mod := mod
    bs := fun b o e => of_hidT e
    bsz := Nat.le_of_eq (hidT_size _ _)
    funs := trivial
    frf := fun b h => absurd h List.not_mem_nil
    hok := hok
    bare := .of_eq hgens }
  have run := (F _ kUp (nsUp _ _ hg)).run callerA [] s H ⟨[.ref a], []⟩ [.ref a] [.ref a] (fun v _ => v = .bl true) (fun _ _ _ => False) rfl hr e0 (hbind s (.ref a)) (.cons rfl .nil) ⟨a, ns, rfl, hl, hO, hS, fun _ => rfl⟩
  refine codeAny_mono run ?_
  rintro (e | fl) s' h
  · obtain ⟨_, _, _, _, _, _, _, _, _, _, _, _, z⟩ := h
    exact z.elim
  · cases fl with
    | ret u =>
      obtain ⟨v, H', os, bare, un, hok', rv, q⟩ := h
      cases q
      obtain rfl : u = Value.bool true := rv
      refine ⟨rfl, OldK.of_keep fun b o e => ?_, os, bare⟩
      cases q : H b with
      | none => exact un.keep b o e q List.not_mem_nil List.not_mem_nil
      | some u =>
        rcases hO b with z | ⟨ob, xs, z⟩
        · rw [z] at q; cases q
        · have e1 := (hok b _ z).1
          have e2 := (hok' b _ (un.frzs b ob _ z)).1
          rw [e1] at e
          cases e
          exact e2
    | _ => exact False.elim h
theorem walk_ofG {l : PySem.W.OpenLaw} {n k : Nat} {q : Program} {loose : List Str} {XP : (Str → Option Value) → Heap → Prop} {YP : World → Heap → Prop} {d : DefRec} {x : Str}
    (hn : l.most = some n) (hn2 : n ≤ sizeLine) (hdf : d.params.defaults = []) (hr : Room k callerA)
    (F : ∀ (w : World) (mg : Str → Option Value) (fa : Addr) (h : Heap), YP w h → h.Ns mainGlobals mg → mg d.name = some (.ref fa) →
      ∃ (K : PySem.W.Frag) (fd : FuncData), K.In h ∧ (∀ (s : Shared) (u : Value), BindsTo s fd ⟨[u], []⟩ [(x, u)]) ∧ ∀ base : Heap, K.In base → base.Ns mainGlobals mg → FnG l.prog w K mg base k fa fd [x] (spL K n)) :
    PySem.W.WalkO q loose XP YP l.row.toRowW d [] (fun f vs => PySem.call f vs) := by
  refine Att.attach_call hn hdf ?_
  intro w s₀ s₁ mg mb fa o pm cd doc a vs ns Gr Y ho hd hcd hmg hobj hints hlen hg
  obtain ⟨K, fd, KX, hb, hF⟩ := F w mg fa _ Y Gr.T.g hmg
  have rv := vals_ints hints
  have len := hints.length
  have hl : ns.length ≤ sizeLine := Nat.le_trans hlen hn2
  cases hk : K.lookup a with
  | some ob =>
    have e := KX a ob hk
    rw [hobj] at e
    cases e
    refine end_core (H := fun _ => none) KX Gr.T.g Gr.T.b Gr.T.builtins Gr.T.nolimit hg hobj hlen hr hF hb (fun _ => .inl rfl) (.inr ⟨_, vs.toArray, _, hk, rfl, rfl, rfl, ?_, ?_⟩) (fun b u z => nomatch z) (fun b u z => nomatch z) (fun u z => nomatch z)
    · rw [List.size_toArray, len]; exact hl
    · simpa using rv
  | none =>
    have at_a : upd (fun _ => none) a (.frz { cls := .type "list", data := .seq vs.toArray } (.lst (ns.map V.int))) a = some (.frz { cls := .type "list", data := .seq vs.toArray } (.lst (ns.map V.int))) := upd_same
    have off : ∀ b u, upd (fun _ => none) a (.frz { cls := .type "list", data := .seq vs.toArray } (.lst (ns.map V.int))) b = some u → b = a := fun b u z => by
      by_cases e : b = a
      · exact e
      · rw [upd_ne e] at z; cases z
    refine end_core KX Gr.T.g Gr.T.b Gr.T.builtins Gr.T.nolimit hg hobj hlen hr hF hb (fun b => ?_) (.inl (.inr ⟨_, at_a⟩)) (fun b u z => ?_) off fun _ _ => hk
    · by_cases e : b = a
      · subst e; exact .inr ⟨_, _, at_a⟩
      · exact .inl (upd_ne e)
    · have e := off b u z
      subst e
      rw [at_a] at z
      cases z
      exact ⟨hobj, by rw [List.length_map]; exact hl, vs, _, rv, hobj⟩
/-! ### the law's def: its first row makes the deck -/
def deckD (bl dr : Bool) (cs : List Int) (m t : Int) : D := .dct [(Sum.inr (Str.ofString "cells"), .lst (cs.map D.int)), (Sum.inr (nmOf bl), .int m), (Sum.inr (ntOf dr), .int t)]
section
variable {P : Program} {w : World} {K : PySem.W.Frag} {mg : Str → Option Value} {base : Heap}
theorem fn_law {x qual x2 : Str} {params : Arguments} {body : List Stmt} {scope : Scope} {kws : List (Str × V)} {f : Addr} {fd : FuncData} {rest : List Str} {j n : Nat} {st : Stmt} {stmts : List Stmt} {ta : ME D} {db : MS}
    (F : FunD K x qual params body scope [] kws f fd) (S : FnScope (x2 :: rest) [x2] scope) (hb : body = st :: stmts)
    (h1 : ∀ (cdv : Value) (A : Around) (outer : List Env) (s : Shared) (H : Hp) (E : XK), A.guards = some [] → Room j (A.deeper (envOfC qual scope s.heap.objs.size f cdv)) →
      ∃ r, US (cxOf (L2.CX P w) P w K mg base (x2 :: rest) qual scope f cdv A outer s H E) (WEx E) (tAsg r (gName 1)) (sAsg ta (mName 1)) st ∧ Sn K (clOf mg) (WEx E) (RD K (clOf mg)) r ta)
    (h2 : ∀ (cdv : Value) (A : Around) (outer : List Env) (s : Shared) (H : Hp) (E : XK), A.guards = some [] → Room j (A.deeper (envOfC qual scope s.heap.objs.size f cdv)) →
      ∃ r, USs (cxOf (L2.CX P w) P w K mg base (x2 :: rest) qual scope f cdv A outer s H E) (WEx E) r db stmts)
    (hlen : 1 ≤ rest.length)
    (law : ∀ ns : List Int, ns.length ≤ n → ∃ bl dr cs m t, ta (.val (.scr ns) :: List.replicate rest.length .emp) ⟨none, none⟩ = .ok (deckD bl dr cs m t) ⟨none, none⟩ ∧ ∃ k', db (.val (.scr ns) :: .val .deck :: List.replicate (rest.length - 1) .emp) ⟨some ⟨cs, m, t, bl, dr⟩, none⟩ = .ret (.bl true) k') :
    FnG P w K mg base (j + 1) f fd [x2] (spL K n) := by
  refine fn_ofG F S (fun vs H Q E h => ?_) (fun cdv A outer s H vs Q E gd hr h => ?_)
  · obtain ⟨a, ns, rfl, _⟩ := h
    rfl
  · obtain ⟨a, ns, rfl, hl, hO, hS, q⟩ := h
    obtain ⟨ra, u1, sa⟩ := h1 cdv A outer s H E gd hr
    obtain ⟨rb, u2⟩ := h2 cdv A outer s H E gd hr
    obtain ⟨bl, dr, cs, m, t, e1, k', e2⟩ := law ns hl
    subst hb
    refine ⟨_, pss_cons u1.ps u2.ps, ?_⟩
    have hst : L2.start (x2 :: rest) [V.ref a] = some (V.ref a) :: List.replicate rest.length none := by
      unfold L2.start
      simp
    rw [hst]
    have r0 : Rel K (clOf mg) (0, 0, 0) (some (V.ref a) :: List.replicate rest.length none) H H (.val (.scr ns) :: List.replicate rest.length .emp) ⟨none, none⟩ := by
      refine ⟨Same.refl _, by simp, fun i d h => ?_, fun i xs h => ?_, fun i i' xs ys b h => ?_, ⟨fun d h => (nomatch h), fun c fs h => (nomatch h)⟩⟩
      · cases i with
        | zero => cases h; exact ⟨.ref a, rfl, .scr hS⟩
        | succ i =>
          have := List.eq_of_mem_replicate (List.mem_of_getElem? (show (List.replicate rest.length Sl.emp)[i]? = some (.val d) from h))
          cases this
      · cases i with
        | zero => cases h
        | succ i =>
          have := List.eq_of_mem_replicate (List.mem_of_getElem? (show (List.replicate rest.length Sl.emp)[i]? = some (.own xs) from h))
          cases this
      · cases i with
        | zero => cases h
        | succ i =>
          have := List.eq_of_mem_replicate (List.mem_of_getElem? (show (List.replicate rest.length Sl.emp)[i]? = some (.own xs) from h))
          cases this
    refine sa (0, 0, 0) _ H H _ ⟨none, none⟩ _ r0 ?_
    rw [e1]
    intro v H' F' r1 x1 d1
    obtain ⟨n', hn'⟩ : ∃ n', rest.length = n' + 1 := ⟨rest.length - 1, by omega⟩
    rw [hn'] at e2 ⊢
    rw [Nat.add_sub_cancel] at e2
    show rb _ ((some (V.ref a) :: List.replicate (n' + 1) none).set 1 (some v)) H'
    have hset : (some (V.ref a) :: List.replicate (n' + 1) none).set 1 (some v) = some (V.ref a) :: some v :: List.replicate n' none := rfl
    rw [hset]
    -- the deck
    cases d1 with
    | @dct p kvs ds hp hk =>
    cases hk with
    | cons hc hk2 =>
    cases hk2 with
    | cons hm hk3 =>
    cases hk3 with
    | cons ht hk4 =>
    cases hk4
    cases hm
    cases ht
    cases hc with
    | @lst c xs ds hcl hca =>
    have exs : ∀ (cs : List Int) (xs : List V), DenA K (clOf mg) (0, 0, 0) F' xs (cs.map D.int) → xs = cs.map V.int := by
      intro cs
      induction cs with
      | nil => intro xs h; cases h; rfl
      | cons z cs ih =>
        intro xs h
        cases h with
        | cons h1 h2 => cases h1; rw [ih _ h2]; rfl
    have exs := exs cs xs hca
    subst exs
    have npc : p ≠ c := fun z => by
      rw [z, hcl] at hp; cases hp
    obtain ⟨F2, g1, g2, g3, g4⟩ : ∃ F2 : Hp, SqL K F2 a (ns.map V.int) ∧ F2 p = none ∧ F2 c = none ∧ Same F2 H' := by
      rcases hS with hS | hS
      · obtain ⟨o, w⟩ : ∃ o : HO, H a = some o := by
          rcases hS with w | ⟨o, w⟩
          · exact ⟨_, w⟩
          · exact ⟨_, w⟩
        obtain ⟨ob, ys, w'⟩ : ∃ ob ys, H a = some (.frz ob (.lst ys)) := by
          rcases hO a with z | z
          · rw [z] at w; cases w
          · exact z
        have wF := x1.sub a _ w'
        have npa : p ≠ a := fun z => by rw [z, wF] at hp; cases hp
        have nca : c ≠ a := fun z => by rw [z, wF] at hcl; cases hcl
        refine ⟨fun b => if b = a then F' a else none, .inl ?_, if_neg npa, if_neg nca, fun b o e => ?_⟩
        · rcases hS with z | ⟨o, z⟩
          · exact .inl ((if_pos rfl).trans (x1.sub a _ z))
          · exact .inr ⟨o, (if_pos rfl).trans (x1.sub a _ z)⟩
        · by_cases h : b = a
          · dsimp only at e
            rw [if_pos h] at e; rw [h]; exact r1.sub a o e
          · dsimp only at e
            rw [if_neg h] at e; cases e
      · exact ⟨fun _ => none, .inr hS, rfl, rfl, fun b o e => nomatch e⟩
    refine u2.sn (p, c, 0) H' F2 ⟨some ⟨cs, m, t, bl, dr⟩, none⟩ (some (V.ref a) :: some (V.ref p) :: List.replicate n' none) H' F2 (.val (.scr ns) :: .val .deck :: List.replicate n' .emp) ⟨some ⟨cs, m, t, bl, dr⟩, none⟩ _ ?_ ?_
    · refine ⟨⟨g4, by simp, fun i d h => ?_, fun i xs h => ?_, fun i i' xs ys b h => ?_, ⟨fun d h => ?_, fun c fs h => nomatch h⟩⟩, Ext.refl, fun i xs b h => ?_⟩
      · match i, h with
        | 0, h => cases h; exact ⟨.ref a, rfl, .scr g1⟩
        | 1, h => cases h; exact ⟨.ref p, rfl, .deck⟩
        | i + 2, h =>
          have := List.eq_of_mem_replicate (List.mem_of_getElem? (show (List.replicate n' Sl.emp)[i]? = some (.val d) from h))
          cases this
      · match i, h with
        | 0, h => cases h
        | 1, h => cases h
        | i + 2, h =>
          have := List.eq_of_mem_replicate (List.mem_of_getElem? (show (List.replicate n' Sl.emp)[i]? = some (.own xs) from h))
          cases this
      · match i, h with
        | 0, h => cases h
        | 1, h => cases h
        | i + 2, h =>
          have := List.eq_of_mem_replicate (List.mem_of_getElem? (show (List.replicate n' Sl.emp)[i]? = some (.own xs) from h))
          cases this
      · cases h
        exact ⟨g2, g3, npc, r1.sub _ _ hp, r1.sub _ _ hcl⟩
      · match i, h with
        | 0, h => cases h
        | 1, h => cases h
        | i + 2, h =>
          have := List.eq_of_mem_replicate (List.mem_of_getElem? (show (List.replicate n' Sl.emp)[i]? = some (.own xs) from h))
          cases this
    · rw [e2]
      intro v σ' H'' F'' s' r'' x'' d''
      cases d''
      exact q _
end
end G
namespace G
open PySem PySem.Spec PyProof.Rows L2
section
variable {X : Cx} {W : WX} {a b c : Expr} {ra rb rc : TE} {ta tb tc : ME D} {pos : Pos}
def negD : D → Option D
  | .int i => some (.int (-i))
  | _ => none
theorem u_neg' (ha : UE X W ra ta a) : UE X W (tUn (rU fun i => .int (-i)) ra) (dUn negD ta) (.UnaryOp .USub a pos) := u_neg ha
theorem hu65 {j : Nat} {A : Around} (hr : Room j A) : A.units + 65 < cLine := by
  have := hr.un
  omega
end
theorem DenA.app {K : PySem.W.Frag} {cl : Cl} {ad : Ad} {F : Hp} : ∀ {vs zs : List V} {ds es : List D}, DenA K cl ad F vs ds → DenA K cl ad F zs es → DenA K cl ad F (vs ++ zs) (ds ++ es)
  | _, _, _, _, .nil, h => h
  | _, _, _, _, .cons h1 h2, h => .cons h1 (h2.app h)
theorem DenA.getD {K : PySem.W.Frag} {cl : Cl} {ad : Ad} {F : Hp} : ∀ {vs : List V} {ds : List D} (i : Nat), DenA K cl ad F vs ds → Den K cl ad F (vs.getD i .non) (ds.getD i .non)
  | _, _, _, .nil => by simp only [List.getD_nil]; exact .non
  | _, _, 0, .cons h1 h2 => h1
  | _, _, i + 1, .cons h1 h2 => by simp only [List.getD_cons_succ]; exact h2.getD i
/-- a block's resources, told without the block -/
theorem castE {X : Cx} {W : WX} {r r' : TE} {t : ME D} {e : Expr} (h : UE X W r t e) (hr : r = r' := by first | (dsimp only [bk, Cx.blk, cxOf]; done) | rfl) : UE X W r' t e := hr ▸ h
theorem castTs {X : Cx} {W : WX} {r r' : TT} {t : ME Bool} {e : List Expr} (h : UTs X W r t e) (hr : r = r' := by first | (dsimp only [bk, Cx.blk, cxOf]; done) | rfl) : UTs X W r' t e := hr ▸ h
/-- a def that is called -/
structure Ce (P : Program) (w : World) (K : PySem.W.Frag) (mg : Str → Option Value) (base : Heap) (j : Nat) (x : Str) (ps : List Str) (fn : Fn) (f : Addr) (fd : FuncData) : Prop where
  ok : FnG P w K mg base j f fd ps (spD K (clOf mg) fn)
  g : mg x = some (.ref f)
  k : PySem.W.keepIn K (.ref f) = true
  b : Binds K fd ps []
end G
namespace G
open PySem PySem.Spec PyProof.Rows L2
/-! ### code that is never reached: no promise at all -/
/-! ### fields of instances -/
theorem DenF.look {K : PySem.W.Frag} {cl : Cl} {ad : Ad} {F : Hp} {f : Str} : ∀ {vs : List (Str × V)} {fs : List (Str × D)} {d : D}, DenF K cl ad F vs fs → fs.lookup f = some d → ∃ v, vs.lookup f = some v ∧ Den K cl ad F v d
  | _, _, _, .nil, h => nomatch h
  | _, _, d, .cons (k := k) h1 h2, h => by
    by_cases e : f = k
    · subst e
      simp [List.lookup] at h ⊢
      subst h; exact h1
    · have e' : (f == k) = false := by simpa using e
      simp [List.lookup, e'] at h ⊢
      exact h2.look h
theorem DenF.length {K : PySem.W.Frag} {cl : Cl} {ad : Ad} {F : Hp} : ∀ {vs : List (Str × V)} {fs : List (Str × D)}, DenF K cl ad F vs fs → vs.length = fs.length
  | _, _, .nil => rfl
  | _, _, .cons h1 h2 => by rw [List.length_cons, List.length_cons, h2.length]
/-! ### without self -/
/-! ### self.f = e -/
/-! ### methods -/
/-! ### making an instance -/
end G
namespace G
open PySem PySem.Spec PyProof.Rows L2
end G
namespace G
open PySem PySem.Spec PyProof.Rows L2
/-! ### an instance that is made, changed and let go within a def -/
end G
/-! own exceptions: class C(T) over class T(Exception), __init__(self, p): super().__init__(p); self.p = p -/
namespace XI
open PySem PySem.W PySem.Calls PyProof.Rows PySem.HandSPX
/-! ### a store into the exception -/
section
open Builtin Builtin.ObjectAttr
variable {prog : Program} {w : World} {A : Around} {E : Value → Shared → Prop} {R : Result → Shared → Prop} {hp : Heap} {g : Array GenState} {d : Drawn} {t : Nat} {os : OsState}
theorem osa {K : W.Frag} {name : Str} {tk : Tok} {v : Value} {x C : Addr} {fv : Array Value} {cd : ClassData} {bm : List Value}
    (X : K.In hp) (hx : hp.get? x = some { cls := .ref C, data := .fields fv }) (hcd : W.clsIn K C = some cd) (hm : cd.mro = .ref C :: bm) (hbm : excTail exTl bm = true) (hh : cd.hasDict = true) (ha : W.findIn K (.ref C) name = some none)
    (hq : ∀ h' tk' dx, (∀ b o, b ≠ x → hp.get? b = some o → h'.get? b = some o) → hp.objs.size ≤ dx → dx ≠ x → h'.get? x = some { cls := .ref C, dict := some dx, data := .fields fv } →
      h'.Ns1 dx (fun y => if y = name then some v else none) → R (.ok (.ret .none)) ⟨h', g, d, tk', os⟩) :
    codeAny (model prog w) A (.call (.builtin "object.__setattr__") ⟨[.ref x, .str name tk, v], []⟩) R ⟨hp, g, d, t, os⟩ := by
  have I : W.InstAt hp x { cls := .ref C, data := .fields fv } C none := ⟨hx, rfl, rfl, trivial⟩
  have SF := F.store_object
  have ne : cd.mro.isEmpty = false := by rw [hm]; rfl
  have hob : cd.mro.contains (.type "object") = true := by rw [hm, List.contains_cons, excTail_contains "object" _ hbm, show exTl.contains (.type "object") = true by decide +kernel, Bool.or_true]
  have hxs : x ≠ hp.objs.size := Nat.ne_of_lt (Heap.lt_size hx)
  have sub : W.Looks (model prog w) hp (isInstance (.ref x) (.type "object")) true := I.type.andThen (W.looks_mroIn X (by unfold W.mroIn; rw [hcd, Option.bind_some, if_neg (by rw [ne]; decide), hob]))
  refine codeAny_call_builtin SF.slot.plain SF.entry (@W.check_slot (model prog w) _ _ ⟨hp, g, d, t, os⟩ "object.__setattr__" "object" "__setattr__" (.ref x) [.str name tk, v] [] _ SF.kind SF.split sub (SF.args (.ref x) (.str name tk) v) ?_)
  have hmr : W.Looks (model prog w) hp (mroOf (.ref C)) cd.mro := (W.looks_clsIn X hcd).andThen .now
  have L3 : W.Looks (model prog w) hp (storeTaker? none) none := .now
  have hcls : W.Looks (model prog w) hp (classData C) cd := W.looks_clsIn X hcd
  rw [W.osa_eq, refuse_eq]
  refine wpAny_bind (wpAny_bind (I.type.at (wpAny_bind (hmr.at ?_))))
  rw [hm, refuseLoop_ref, excTail_pass _ (F.store_Exception.passes _) _ hbm]
  refine wpAny_pure (wpAny_bind (I.type.at (wpAny_bind ((W.looks_findIn X ha).at (wpAny_bind (L3.at ?_))))))
  show wpAny _ _ (storeInOwnDict (.ref x) (.ref C) (.str name tk) name v false) _ _ _
  obtain ⟨nm, bs, mro, ns, qn, hd, sn, sb, ab, col, del⟩ := cd
  dsimp only at hh
  subst hh
  unfold storeInOwnDict ownDictForStores
  repeat (first | with_reducible refine store_in_new ?_ ?_ | with_reducible refine wpAny_loadPart_at hx ?_ | with_reducible refine hcls.at ?_ | wp_step)
  · exact ⟨_, #[], _, (Heap.get?_update_ne _ _ _ _ hxs.symm).trans (Heap.get?_push_at rfl rfl), rfl, fun e he => absurd he (by simp), fun _ => rfl⟩
  · intro h' tk' hn' hs
    have hx₁ : (hp.push { cls := .type "dict", data := .dict #[] }).get? x = some { cls := .ref C, data := .fields fv } := Heap.get?_push_of_some _ hx
    refine hq h' tk' hp.objs.size (fun b o hb ho => ?_) (Nat.le_refl _) hxs.symm ?_ hn'
    · exact (hs.2 b (Nat.ne_of_lt (Heap.lt_size ho))).trans ((Heap.get?_update_ne _ _ _ _ hb).trans (Heap.get?_push_of_some _ ho))
    · exact (hs.2 x hxs).trans (Heap.get?_update_self _ hx₁ rfl)
theorem init_bw {C N u e t0 : Addr} {nm q : Str} {bs bm : List Value} {hdct : Bool} {sn : List Str} {sub : List Value} {ab : Bool} {col : Option Bool} {dd : Option Addr} {k0 k1 k2 k3 k5 : Option Value} {rest : List Value} {Q : Value → Shared → Prop}
    (hC : hp.get? C = some (excClassObj nm q C N bs bm hdct sn sub ab col dd k0 k1 k2 k3 k5 "Exception.__new__")) (he : hp.get? e = some (HandSPX.excO C t0)) (hu : hp.get? u = some (kxs_mw "Exception.__init__" e)) (hrest : rest.length ≤ sizeLine)
    (hq : ∀ h' t1, (∀ b o, b ≠ e → hp.get? b = some o → h'.get? b = some o) → h'.get? e = some (HandSPX.excO C t1) → Q .none ⟨h', g, d, t, os⟩) :
    wpAny (model prog w) A (call (.ref u) rest) Q E ⟨hp, g, d, t, os⟩ := by
  refine wpAny_call (codeAny_of_tree ?_)
  show wpAny _ A.in1 (callAny (.ref u) ⟨rest, []⟩) _ _ _
  simp only [callAny]
  refine wpAny_bind (wpAny_load hu ?_)
  simp only [kxs_mw, show (Value.type "method-wrapper" == Value.type "method" || Value.type "method-wrapper" == Value.type "builtin_function_or_method" || Value.type "method-wrapper" == Value.type "method-wrapper") = true by decide, if_true]
  refine W.KFB.if_so (by decide) ?_
  refine wpAny_bind (check_bound_init F.excBase_Exception.toExcCallFacts hC he rfl ?_)
  refine wpAny_bind (wpAny_pure (wpAny_pure ?_))
  refine ⟨Code.quiet_builtin _ (by decide +kernel), codeAny_builtin F.excBase_Exception.initEntry ?_⟩
  rw [Around.under_plainId F.excBase_Exception.init.plain _]
  wp_walk
  refine hq _ hp.objs.size (fun b o hb ho => ?_) ?_
  · rw [Heap.get?_update_other _ _ (Ne.symm hb)]
    exact Heap.get?_push_of_some _ ho
  · rw [Heap.get?_update_self _ (Heap.get?_push_of_some _ he) rfl]
    rfl
end
/-! ### the text of __init__ -/
abbrev fdOf (qual p : Str) (a b : Pos) (q : List Pos) (cl : Addr) (dV kV doc pm : Value) (an : Option Addr) (cdv ct : Value) : FuncData :=
  { name := "__init__", qualname := qual, params := iA p a b, body := .stmts (iB p q), scope := iS p, globals := mainGlobals, closure := [("__class__", cl)], defaults := dV, kwdefaults := kV, doc, pyModule := pm, annotations := an, code := cdv, closureTuple := ct, builtins := builtinsNs }
/-- what the written part says of such a class at C, and of its __init__, at fI -/
structure ExcTxt (P : Program) (K : Frag) (mg : Str → Option Value) (nm p qual : Str) (a b : Pos) (q : List Pos) (C fI : Addr) : Prop where
  gC : mg nm = some (.ref C)
  mS : mg "super" = none
  np : (("self" : Str) == p) = false ∧ (("__class__" : Str) == p) = false ∧ (("super" : Str) == p) = false ∧ (p == ("__debug__" : Str)) = false
  ei : excInitIn K C exTl "Exception.__new__" = true
  eo : excOver K C exTl = true
  sa : findIn K (.ref C) "__setattr__" = some (some (.builtin "object.__setattr__"))
  ga : findIn K (.ref C) "__getattribute__" = some (some (.builtin "BaseException.__getattribute__"))
  gg : findIn K (.ref C) "__getattr__" = some none
  noN : findIn K (.ref C) p = some none
  iC : findIn K (.ref C) "__init__" = some (some (.ref fI))
  tC : typeIn K (.ref fI) = some (.type "function")
  kC : keepIn K (.ref C) = true
  exC : subIn K (.ref C) (.type "BaseException") = some true
  exS : subIn K (.ref C) (.ref C) = some true
  exE : subIn K (.ref C) (.type "Exception") = some true
  tyC : typeIn K (.ref C) = some (.type "type")
  hdC : hasDictIn K C = true
  thp : nsIn K cStatics "thirdparty.any" = some none
  sup : ks_superIn K C C "__init__" = some (some (.builtin "Exception.__init__"))
  tops : (P.main.scope.names.lookup ("super" : Str)).isSome = false
  fn : ∃ (oc : Value) (od : Option Addr) (doc pm : Value) (an : Option Addr) (cdv ct : Value) (osl : Array (Option Value)) (cl cc : Addr) (ocl occ : Obj) (vs : Array Value) (tf : Tok) (file : Str),
    K.lookup fI = some ⟨oc, od, .func (fdOf qual p a b q cl .none .none doc pm an cdv ct), osl⟩ ∧ codeIn K cdv qual = true ∧ K.lookup cl = some ocl ∧ ocl.data = .cell (some (.ref C)) ∧
      cdv = .ref cc ∧ K.lookup cc = some occ ∧ occ.data = .fields vs ∧ vs[2]? = some (.str file tf) ∧ ((P.main.file : Str) == file) = true
end XI
namespace XI
open PySem PySem.W PySem.Calls PyProof.Rows PySem.HandSPX
theorem ldSup {M : Model} {A : Around} {E : Value → Shared → Prop} {s : Shared} {env : Env} {mg mb : Str → Option Value} {x : Str} {v : Value} {Q : Value → Shared → Prop} (hx : env.kindOf x = some .globalImplicit) (hg : s.heap.Ns env.globals mg) (hmiss : mg x = none) (hb : s.heap.Ns env.builtins mb)
    (hv : mb x = some v) (h : Q v s) (hk : env.scope.kind = .function := by rfl) : wpAny M A (loadName env x) Q E s := by
  unfold loadName
  simp only [Env.blockKind, hk, hx, ScopeKind.isAnnotationScope, Bool.false_and, Bool.false_eq_true, if_false]
  exact loadGlobal_builtin hg hmiss hb hv h
end XI
namespace G
open PySem PySem.Spec PyProof.Rows L2
section
variable {X : Cx} {W : WX} {a : Expr} {C fI : Addr} {nm p qual : Str} {pa pb : Pos} {q : List Pos}
theorem clOf_of {mg : Str → Option Value} {nm : Str} {C : Addr} (h : mg nm = some (.ref C)) : clOf mg nm = some C := by
  unfold clOf; rw [h]
end
end G
namespace G
open PySem PySem.Spec PyProof.Rows L2
/-! ### canonical readings -/
def rdS (K : PySem.W.Frag) (cl : Cl) (W : WX) (t : MS) : TS := fun E σ H => ∃ ad H0 F0 k0 F s k, RelS K cl ad H0 F0 k0 σ H F s k ∧ PostS K cl W ad H0 F0 k0 F (t s k) E
def VSs (X : Cx) (W : WX) (t : MS) (st : List Stmt) : Prop := PSs X st (rdS X.K (clOf X.mg) W t)
theorem USs.v {X : Cx} {W : WX} {r : TS} {t : MS} {st : List Stmt} (h : USs X W r t st) : VSs X W t st :=
  ⟨fun pins s σ H D I ⟨ad, H0, F0, k0, F, sl, k, rel, p⟩ => h.ps.run pins s σ H D I (h.sn ad H0 F0 k0 σ H F sl k D rel p)⟩
def rdE (K : PySem.W.Frag) (cl : Cl) (W : WX) (t : ME D) : TE := fun σ H Q => ∃ ad F s k, Rel K cl ad σ H F s k ∧ Post K cl W (RD K cl) ad σ H F s k (t s k) Q
theorem sn_rdE {K : PySem.W.Frag} {cl : Cl} {W : WX} {t : ME D} : Sn K cl W (RD K cl) (rdE K cl W t) t := fun ad σ H F s k Q rel p => ⟨ad, F, s, k, rel, p⟩
theorem UE.v {X : Cx} {W : WX} {r : TE} {t : ME D} {e : Expr} (h : UE X W r t e) : UE X W (rdE X.K (clOf X.mg) W t) t e :=
  ⟨⟨fun pins s σ H Q I ⟨ad, F, sl, k, rel, p⟩ => h.pe.run pins s σ H Q I (h.sn ad σ H F sl k Q rel p)⟩, sn_rdE⟩
/-! ### a thing that lies in the heap is taken up -/
theorem track {X : Cx} {pins : List (Addr × Obj)} {σ : L2.St} {H : Hp} {s : Shared} {a : Addr} {o : HO} {oe : Obj} {vs : Array Value} (I : Inv X pins σ H s) (ha : s.heap.get? a = some oe) (hd : oe.data = .fields vs) (h0 : X.s_0.heap.get? a = none) (na : H a = none) (nL : a ≠ X.env.locals) (np : ∀ p ∈ X.pn ++ pins, p.1 ≠ a)
    (new : ObjOk X.prog X.w (upd H a o) s.heap a o) : Inv X pins σ (upd H a o) s := by
  refine ⟨I.ok, I.os, I.bare, ⟨I.base.keep, I.base.slot, fun b ob e n hx => ?_, I.base.there, fun b xs e => ?_, fun b ob u e => ?_, fun b ps e => ?_⟩, I.loc, I.cell, ?_, fun x c e => ?_, fun p hp => ?_, fun b ob e => ?_, I.len⟩
  · have nb : b ≠ a := fun z => by rw [z, h0] at e; cases e
    rw [upd_ne nb]; exact I.base.free b ob e n hx
  · have := I.base.tups b xs e
    rw [upd_ne (ne_of_none this na)]; exact this
  · have := I.base.frzs b ob u e
    rw [upd_ne (ne_of_none this na)]; exact this
  · obtain ⟨m, this⟩ := I.base.tbls b ps e
    exact ⟨m, by rw [upd_ne (ne_of_none this na)]; exact this⟩
  · rw [upd_ne (Ne.symm nL)]; exact I.free
  · have nc : c ≠ a := fun z => by
      obtain ⟨w', oc, hc1, hc2⟩ := I.cell x c e
      rw [z, ha] at hc1
      cases hc1
      rw [hd] at hc2
      cases hc2
    rw [upd_ne nc]; exact I.freeC x c e
  · obtain ⟨e1, e2, e3, e4, e5⟩ := I.pin p hp
    exact ⟨e1, by rw [upd_ne (np p hp)]; exact e2, e3, e4, e5⟩
  · by_cases hb : b = a
    · subst hb
      rw [upd_same] at e
      cases e
      exact new
    · rw [upd_ne hb] at e
      refine (I.hok b ob e).stay (fun c w' _ q => q) (fun c q => ?_) (fun c xs q => ?_)
      · rw [upd_ne (ne_of_none q na)]; exact q
      · rw [upd_ne (ne_of_none q na)]; exact q
theorem exH_ok {P : Program} {w : World} {H : Hp} {h : Heap} {a C : Addr} {dd : Option Addr} {oe : Obj} {vs : Array Value} (h1 : h.get? a = some oe) (h2 : oe.cls = .ref C) (h3 : oe.dict = dd) (h4 : oe.data = .fields vs) : ObjOk P w H h a (exH a C dd) :=
  ⟨⟨oe, vs, h1, h2, h3, h4⟩, ⟨oe, h1⟩, fun _ _ ⟨oe, vs, e1, e2⟩ k => ⟨oe, vs, k _ e1, e2⟩⟩
section
variable {X : Cx} {x n : Str} {c : Value} {i : Nat} {body suite : List Stmt} {b₀ : Stmt} {np pos pos' : Pos} {tb : WX → TS} {ts : TS} {Wout : WX}
def endsU (i : Nat) (D : Ends) : Ends := { nx := fun σ' H' => D.nx (σ'.set i none) H', rt := D.rt, bk := fun σ' H' => D.bk (σ'.set i none) H', ct := fun σ' H' => D.ct (σ'.set i none) H' }
/-- what 'except x as n' wishes: the exception is taken up as an object of the heap -/
def wAsX (K : PySem.W.Frag) (c : Value) (i : Nat) (ts : TS) (Wout : WX) (D : Ends) : WX := fun cls d σ H =>
  ∃ b C, cls = .ref C ∧ PySem.W.exmOne K cls c = some b ∧ (b = true → ∀ a, H a = none → ts (endsU i D) (σ.set i (some (.ref a))) (upd H a (exH a C d))) ∧ (b = false → Wout cls d σ H)
theorem ps_tryX (hex : X.ex = []) (hs : X.stack = X.env :: X.outer) (hf : X.env.frame = some X.env.locals) (hN : X.N.Nodup) (hi : X.N[i]? = some n) (hln : X.env.kindOf n = some .local) (hc : Names X x c) (tk : Takes X Wout)
    (hb : ∀ (W : WX) (pn : List (Addr × Obj)) (xe : Value → Shared → Prop), Takes (X.tr pn xe) W → PassesOwn (model X.prog X.w) X.A X.env xe → PSs (X.tr pn xe) body (tb W))
    (hsu : ∀ (a : Addr) (pn : List (Addr × Obj)), PSs (X.suite a pn) (b₀ :: suite) ts) :
    PS X (.Try body [.ExceptHandler (some (.Name x np)) (some n) (b₀ :: suite) pos'] [] [] pos) (fun D σ H => tb (wAsX X.K c i ts Wout D) D σ H) := by
  refine ⟨fun pins s σ H D I h => ?_⟩
  have ok := I.ok
  have hfr : X.A.frames = some (X.env :: X.outer) := by rw [ok.frames, hs]
  have hloc : Loc X.env.scope n := .inl hln
  refine wpAny_Try_except ?_
  refine wpAny_mono ((hb (wAsX X.K c i ts Wout D) (X.pn ++ pins) (fun e s₁ => wpAny (model X.prog X.w) X.A (noteFrame e X.env) (fun _ s₂ => wpAny (model X.prog X.w) X.A (setFlight e none) (fun _ s₃ =>
    wpAny (model X.prog X.w) X.A (handleBy e X.env [.ExceptHandler (some (.Name x np)) (some n) (b₀ :: suite) pos']) (SP X pins D) X.xe s₃) X.xe s₂) X.xe s₁) (fun u s' xx => ?_) PassesOwn.looking).run [] s σ H D (I.toTry _) h) (fun f s1 hsp => ?_) (fun e s1 he => he)
  · obtain ⟨a, B, sI, pins', σ', H', cls, d, rfl, J', nb, up, sky, na, os, ag, b, C, rfl, hb1, hyes, hno⟩ := xx
    have J : Inv X pins σ' H' sI := J'.ofTry ok
    have sky' : Sky B (X.env :: X.outer) a (Zc (.ref C) d) X.env.locals s'.heap := by rw [← hs]; exact sky
    show wpAny (model X.prog X.w) X.A (noteFrame (.ref a) X.env) _ _ _
    refine Sky.land Zc.steady hfr hf sky' fun h3 fl3 up3 => ?_
    have J3 : Inv X pins σ' H' { s' with heap := h3 } := J.landed nb fl3.1 (up.trans up3) os ag
    obtain ⟨oe3, vs3, he3, hz3, hd3⟩ := fl3.there
    have notFr : ∀ {h : Heap} {o : Obj} {vs : Array Value}, h.FunFrames B (X.env :: X.outer) → h.get? a = some o → o.data = .fields vs → a ∉ frs (X.env :: X.outer) := fun {h o vs} ff e dd hm => by
      obtain ⟨_, o', e', hnf⟩ := ff.mem hm
      rw [e] at e'; cases e'
      exact hnf _ dd
    have nfr := notFr fl3.2.2.1 he3 hd3
    have nL : a ≠ X.env.locals := fun z => nfr (List.mem_filterMap.mpr ⟨X.env, List.mem_cons_self, by rw [hf, z]⟩)
    have nF : a ∉ X.fs := fun hm => by
      obtain ⟨e, he, q⟩ := List.mem_filterMap.mp hm
      exact nfr (List.mem_filterMap.mpr ⟨e, List.mem_cons_of_mem _ he, q⟩)
    have S3 := J3.suite he3 hd3 na nL nF
    refine wpAny_handleBy_cons (codeAny_handlers_test ?_) (by intro q; cases q)
    have LT : PySem.W.Looks (model X.prog X.w) h3 (typeOf (.ref a)) (.ref C) := fun A Q E s k q => wpAny_typeOf_ref (k _ _ he3) (by rw [hz3.1]; exact q)
    have LM := PySem.W.exm_one (M := model X.prog X.w) (J3.kIn) LT hb1
    have test : ∀ {Q : Value → Shared → Prop} {E : Value → Shared → Prop}, Q c { s' with heap := h3 } → wpAny (model X.prog X.w) (X.A.mark (some (.ref a))) (eval (.Name x np) X.env) Q E { s' with heap := h3 } := fun {Q E} q => by
      obtain ⟨hg, hdbg, hm | ⟨hm, hv, hnn⟩⟩ := hc
      · exact ld_glob (X := X.suite a ((a, oe3) :: (X.pn ++ pins))) S3 hg hm q hdbg
      · exact ld_blt (X := X.suite a ((a, oe3) :: (X.pn ++ pins))) S3 hg hm hv q hnn hdbg
    refine test (LM.here ?_)
    cases b with
    | true =>
      refine codeAny_handlers_suite_as ?_
      refine HandSPX.lands_againZ fl3 fun h4 fl4 up4 => ?_
      have J4 : Inv X pins σ' H' { s' with heap := h4 } := J.landed nb fl4.1 ((up.trans up3).trans up4) os ag
      obtain ⟨oe4, vs4, he4, hz4, hd4⟩ := fl4.there
      have aI : sI.heap.get? a = none := by
        cases q : sI.heap.get? a with
        | none => rfl
        | some o =>
          have na' : a ∉ frs X.stack := by rw [hs]; exact nfr
          have := nb a o q na'
          rw [fl4.2.1] at this; cases this
      have a0 : X.s_0.heap.get? a = none := by
        cases q : X.s_0.heap.get? a with
        | none => rfl
        | some o =>
          have ax : a ∉ X.ex := fun hm => by
            rw [hex] at hm; cases hm
          obtain ⟨o', e'⟩ := J.base.there a o q ax
          rw [aI] at e'; cases e'
      have pnA : ∀ p ∈ X.pn ++ pins, p.1 ≠ a := fun p hp z => by
        have := (J.pin p hp).1
        rw [z, aI] at this; cases this
      have T4 : Inv X pins σ' (upd H' a (exH a C d)) { s' with heap := h4 } := track J4 he4 hd4 a0 na nL pnA (exH_ok he4 hz4.1 hz4.2 hd4)
      have S4 : Inv (X.suite a (X.pn ++ pins)) [] σ' (upd H' a (exH a C d)) { s' with heap := h4 } :=
        ⟨T4.ok.suite _ _, T4.os, T4.bare, T4.base, T4.loc, T4.cell, T4.free, T4.freeC, fun p hp => T4.pin p (by rw [List.append_nil] at hp; exact hp), T4.hok, T4.len⟩
      refine store_ok (X := X.suite a (X.pn ++ pins)) (v := .ref a) S4 hN hi hloc rfl (fun s5 S5 => ?_) (.inr hln)
      refine wpAny_mono ((hsu a (X.pn ++ pins)).run [] s5 _ _ _ S5 (hyes rfl a na)) (fun f s6 hsp => ?_) (fun _ _ z => False.elim z)
      have un : ∀ {σ6 : L2.St} {H6 : Hp}, Inv (X.suite a (X.pn ++ pins)) [] σ6 H6 s6 → Inv X pins σ6 H6 s6 := fun S6 =>
        ⟨ok, S6.os, S6.bare, S6.base, S6.loc, S6.cell, S6.free, S6.freeC, fun p hp => S6.pin p (List.mem_append_left _ hp), S6.hok, S6.len⟩
      have end_ : ∀ {σ6 : L2.St} {H6 : Hp} {Q : Shared → Prop}, Inv (X.suite a (X.pn ++ pins)) [] σ6 H6 s6 → (∀ s7, Inv X pins (σ6.set i none) H6 s7 → Q s7) →
          wpAny (model X.prog X.w) X.A (do bindName X.env n .none; unbindBehindTheSuite X.env n pos') (fun _ s7 => Q s7) X.xe s6 := fun {σ6 H6 Q} S6 hq => gone_ok (un S6) hN hi hln hq
      cases f with
      | next =>
        obtain ⟨σ6, H6, S6, q6⟩ := hsp
        exact end_ S6 fun s7 J7 => ⟨_, _, J7, q6⟩
      | brk =>
        obtain ⟨σ6, H6, S6, q6⟩ := hsp
        exact end_ S6 fun s7 J7 => ⟨_, _, J7, q6⟩
      | cont =>
        obtain ⟨σ6, H6, S6, q6⟩ := hsp
        exact end_ S6 fun s7 J7 => ⟨_, _, J7, q6⟩
      | ret u =>
        obtain ⟨v6, σ6, H6, S6, r6, q6⟩ := hsp
        exact end_ S6 fun s7 J7 => ⟨_, _, _, J7, r6, q6⟩
    | false =>
      show wpAny _ X.A (handleBy (.ref a) X.env []) _ _ _
      refine wpAny_handleBy_nil ?_
      obtain ⟨k1, k2, k3, oe, vs, T, oT, ts', he, hz, hd, h1, hr⟩ := id fl3
      unfold PySem.passOn
      refine wpAny_bind (wpAny_field he hd h1 ?_)
      rw [if_neg (show ¬ ((Value.ref T == Value.none) = true) from by simp)]
      have fin : wpAny (model X.prog X.w) X.A (setFlight (.ref a) X.env.frame) (fun _ s4 => wpAny (model X.prog X.w) X.A (throw (.ref a) : Sem Flow) (SP X pins D) X.xe s4) X.xe { s' with heap := h3 } := by
        rw [hf]
        refine HandSPX.setFlight_upZ fl3 fun h4 hh4 up4 => wpAny_throw (tk _ _ ?_)
        exact ⟨a, B, sI, pins, σ', H', .ref C, d, rfl, J, nb, (up.trans up3).trans up4, .inr (.inr (by rw [hs]; exact hh4)), na, os, ag, hno rfl⟩
      first
        | exact wpAny_bind (wpAny_pure (wpAny_bind fin))
        | exact wpAny_bind fin
  · cases f with
    | next =>
      obtain ⟨σ', H', J', q⟩ := hsp
      exact wpAny_execs_nil ⟨σ', H', J'.ofTry ok, q⟩
    | brk =>
      obtain ⟨σ', H', J', q⟩ := hsp
      exact ⟨σ', H', J'.ofTry ok, q⟩
    | cont =>
      obtain ⟨σ', H', J', q⟩ := hsp
      exact ⟨σ', H', J'.ofTry ok, q⟩
    | ret u =>
      obtain ⟨v, σ', H', J', r, q⟩ := hsp
      exact ⟨v, σ', H', J'.ofTry ok, r, q⟩
end
end G
namespace G
open PySem PySem.Spec PyProof.Rows L2
theorem emp_set {s : List Sl} {i j : Nat} {x : Sl} (h : (s.set i .emp)[j]? = some x) (hx : x ≠ .emp) : i ≠ j ∧ s[j]? = some x := by
  have n : i ≠ j := fun e => by
    subst e
    by_cases hl : i < s.length
    · rw [List.getElem?_set_self hl] at h; cases h; exact hx rfl
    · rw [List.getElem?_eq_none (by simpa using hl)] at h; cases h
  rw [List.getElem?_set_ne n] at h
  exact ⟨n, h⟩
theorem RelS.unset {K : PySem.W.Frag} {cl : Cl} {ad : Ad} {H0 F0 : Hp} {k0 : Sk} {σ : L2.St} {H F : Hp} {s : List Sl} {k : Sk} (r : RelS K cl ad H0 F0 k0 σ H F s k) (i : Nat) : RelS K cl ad H0 F0 k0 (σ.set i none) H F (s.set i .emp) k := by
  refine ⟨⟨r.rel.sub, by rw [List.length_set, List.length_set]; exact r.rel.len, fun j d h => ?_, fun j xs h => ?_, fun a b xs ys c h1 h2 h3 h4 => ?_, r.rel.dk⟩, r.ext, fun j xs b h1 h2 => ?_⟩
  · obtain ⟨n, h⟩ := emp_set h (fun z => nomatch z)
    rw [List.getElem?_set_ne n]; exact r.rel.val j d h
  · obtain ⟨n, h⟩ := emp_set h (fun z => nomatch z)
    rw [List.getElem?_set_ne n]; exact r.rel.own j xs h
  · obtain ⟨n1, h1⟩ := emp_set h1 (fun z => nomatch z)
    obtain ⟨n2, h2⟩ := emp_set h2 (fun z => nomatch z)
    rw [List.getElem?_set_ne n1] at h3
    rw [List.getElem?_set_ne n2] at h4
    exact r.rel.inj a b xs ys c h1 h2 h3 h4
  · obtain ⟨n, h1⟩ := emp_set h1 (fun z => nomatch z)
    rw [List.getElem?_set_ne n] at h2
    exact r.fr j xs b h1 h2
def unEx (i : Nat) : RS → RS
  | .nx s k => .nx (s.set i .emp) k
  | .brk s k => .brk (s.set i .emp) k
  | .ct s k => .ct (s.set i .emp) k
  | .ret d k => .ret d k
  | .ex _ _ _ _ => .no
  | .no => .no
def sTry (cs : List (Str × Bool)) (i : Nat) (b su : MS) : MS := fun s k => match b s k with
  | .ex cn fs s' k' => (match cs.lookup cn with
    | some true => unEx i (su (s'.set i (.val (.exc cn fs))) k')
    | some false => .ex cn fs s' k'
    | none => .no)
  | .nx s k => .nx s k
  | .brk s k => .brk s k
  | .ct s k => .ct s k
  | .ret d k => .ret d k
  | .no => .no
/-- what is known of the classes that the body may raise: is it one that the clause names? -/
def Catch (K : PySem.W.Frag) (cl : Cl) (c : Value) (cs : List (Str × Bool)) : Prop := ∀ cn b, cs.lookup cn = some b → ∀ Cn, cl cn = some Cn → PySem.W.exmOne K (.ref Cn) c = some b
theorem catch_nil {K : PySem.W.Frag} {cl : Cl} {c : Value} : Catch K cl c [] := fun _ _ h => nomatch h
theorem catch_cons {K : PySem.W.Frag} {cl : Cl} {c : Value} {cs : List (Str × Bool)} {cn : Str} {b : Bool} {Cn : Addr} (hc : cl cn = some Cn) (he : PySem.W.exmOne K (.ref Cn) c = some b) (r : Catch K cl c cs) : Catch K cl c ((cn, b) :: cs) := fun x y h C hC => by
  rw [List.lookup_cons] at h
  by_cases e : x = cn
  · subst e
    rw [beq_self_eq_true] at h
    cases h
    rw [hc] at hC; cases hC
    exact he
  · have : (x == cn) = false := by simpa using e
    rw [this] at h
    exact r x y h C hC
section
variable {X : Cx} {x n : Str} {c : Value} {i : Nat} {body suite : List Stmt} {b₀ : Stmt} {np pos pos' : Pos} {db su : MS} {W : WX} {cs : List (Str × Bool)}
theorem us_try (hc : Names X x c) (tk : Takes X W) (hN : X.N.Nodup) (hcs : Catch X.K (clOf X.mg) c cs)
    (hb : ∀ (W : WX) (pn : List (Addr × Obj)) (xe : Value → Shared → Prop), Takes (X.tr pn xe) W → PassesOwn (model X.prog X.w) X.A X.env xe → VSs (X.tr pn xe) W db body)
    (hsu : ∀ (a : Addr) (pn : List (Addr × Obj)), VSs (X.suite a pn) W0 su (b₀ :: suite))
    (hi : X.N[i]? = some n := by rfl) (hln : X.env.kindOf n = some .local := by rfl) (hex : X.ex = [] := by rfl) (hs : X.stack = X.env :: X.outer := by rfl) (hf : X.env.frame = some X.env.locals := by rfl) :
    US X W (fun D σ H => rdS X.K (clOf X.mg) (wAsX X.K c i (rdS X.K (clOf X.mg) W0 su) W D) db D σ H) (sTry cs i db su) (.Try body [.ExceptHandler (some (.Name x np)) (some n) (b₀ :: suite) pos'] [] [] pos) := by
  refine ⟨ps_tryX (tb := fun W => rdS X.K (clOf X.mg) W db) hex hs hf hN hi hln hc tk hb hsu, fun ad H0 F0 k0 σ H F s k E rel p => ⟨ad, H0, F0, k0, F, s, k, rel, ?_⟩⟩
  unfold sTry at p
  cases q : db s k with
  | nx s' k' => rw [q] at p; exact p
  | brk s' k' => rw [q] at p; exact p
  | ct s' k' => rw [q] at p; exact p
  | ret d k' => rw [q] at p; exact p
  | no => rw [q] at p; exact p
  | ex cn fs s' k' =>
    rw [q] at p
    intro cls dd σ' H' F' r' e' x'
    obtain ⟨Cn, hcl, rfl, hfs⟩ := x'
    cases z : cs.lookup cn with
    | none => simp only [z] at p; exact False.elim p
    | some b =>
      have hx := hcs cn b z Cn hcl
      cases b with
      | false =>
        simp only [z] at p
        exact ⟨false, Cn, rfl, hx, (fun z => nomatch z), fun _ => p _ dd σ' H' F' r' e' ⟨Cn, hcl, rfl, hfs⟩⟩
      | true =>
        simp only [z] at p
        refine ⟨true, Cn, rfl, hx, fun _ a ha => ?_, fun z => nomatch z⟩
        have nw := New.one (o := exH a Cn dd) r'.rel.sub ha
        have hd : Den X.K (clOf X.mg) ad (upd F' a (exH a Cn dd)) (.ref a) (.exc cn fs) := by
          rcases hfs with ⟨rfl, rfl⟩ | ⟨d, vs, rfl, h1, h2⟩
          · exact .exc0 hcl upd_same
          · exact .exc hcl upd_same (nw.sub _ _ h1) (h2.mono nw.sub)
        refine ⟨ad, H0, F0, k0, _, _, k', (r'.new nw).set i hd, ?_⟩
        have eF := e'.trans nw.sub
        cases y : su (s'.set i (.val (.exc cn fs))) k' with
        | nx s2 k2 => rw [y] at p; exact fun σ2 H2 F2 r2 e2 => p _ H2 F2 (r2.unset i) (eF.trans e2)
        | brk s2 k2 => rw [y] at p; exact fun σ2 H2 F2 r2 e2 => p _ H2 F2 (r2.unset i) (eF.trans e2)
        | ct s2 k2 => rw [y] at p; exact fun σ2 H2 F2 r2 e2 => p _ H2 F2 (r2.unset i) (eF.trans e2)
        | ret d k2 => rw [y] at p; exact fun v σ2 H2 F2 s2 r2 e2 d2 => p v _ H2 F2 _ (r2.unset i) (eF.trans e2) d2
        | ex c1 f1 s2 k2 => rw [y] at p; exact False.elim p
        | no => rw [y] at p; exact False.elim p
/-! ### e.f of an exception -/
/-- what is known of the class: its attribute f is the dict's -/
structure XFld (K : PySem.W.Frag) (C : Addr) (f : Str) : Prop where
  ga : PySem.W.findIn K (.ref C) "__getattribute__" = some (some (.builtin "BaseException.__getattribute__"))
  gg : PySem.W.findIn K (.ref C) "__getattr__" = some none
  exC : PySem.W.subIn K (.ref C) (.type "BaseException") = some true
  hdC : PySem.W.hasDictIn K C = true
  noN : PySem.W.findIn K (.ref C) f = some none
def tFldX (K : PySem.W.Frag) (f : Str) (te : TE) : TE := fun σ H Q => te σ H fun x H1 => ∃ a C d vs v, x = .ref a ∧ H1 a = some (exH a C (some d)) ∧ H1 d = some (.xd vs) ∧ vs.lookup f = some v ∧ XFld K C f ∧ Q v H1
theorem pe_fldX {e : Expr} {te : TE} {f : Str} {pos : Pos} (he : PE X e te) (hb : attributeBase e f X.env (eval e X.env) = eval e X.env := by rfl) : PE X (.Attribute e f pos) (tFldX X.K f te) := by
  refine ⟨fun pins s σ H Q I h => ?_⟩
  refine attr_of hb (thn (he.run pins s σ H _ I h) fun u s1 hh => ?_)
  obtain ⟨x, H1, I1, rx, a, C, dd, vs, v, ex, ea, ed, el, T, q⟩ := hh
  subst ex
  obtain rfl : u = Value.ref a := rx
  have hx : ObjOk X.prog X.w H1 s1.heap a (exH a C (some dd)) := I1.hok a _ ea
  obtain ⟨⟨oe, fv, e1, e2, e3, e4⟩, _, _⟩ := hx
  have hx2 : ObjOk X.prog X.w H1 s1.heap dd (.xd vs) := I1.hok dd _ ed
  obtain ⟨mA, hns, hr⟩ := hx2
  obtain ⟨od, ho, hl⟩ := lookIn_ns hns
  obtain ⟨u, hu, ru⟩ := RelO.some_of (v := v) (o := mA f) (by rw [← el]; exact hr f)
  have J : PySem.W.InstAt s1.heap a oe C (some od) := ⟨e1, e2, by unfold PySem.W.notCls; rw [e4] <;> rfl, by rw [e3]; exact ho⟩
  exact HandSPX.exc_get I1.kIn J T.ga T.gg T.exC (PySem.W.findObj_own T.hdC T.noN rfl (by rw [hl, hu])) (handed_of ru) ⟨v, H1, I1.tok _, ru, q⟩
/-- the classes of which e may be -/
def dFldX (cs : List Str) (f : Str) (ta : ME D) : ME D := eb ta fun d => eo (match d with
  | .exc c fs => if cs.contains c then fs.lookup f else none
  | _ => none)
theorem u_fldX {e : Expr} {te : TE} {ta : ME D} {f : Str} {pos : Pos} {ns : List Str} (hc : ∀ c ∈ ns, ∀ C, clOf X.mg c = some C → XFld X.K C f) (h : UE X W te ta e) (hb : attributeBase e f X.env (eval e X.env) = eval e X.env := by rfl) : UE X W (tFldX X.K f te) (dFldX ns f ta) (.Attribute e f pos) := by
  refine ⟨pe_fldX h.pe hb, fun ad σ H F s k Q rel p => ?_⟩
  refine h.sn.bind rel p fun x d H1 F1 k1 _ r1 x1 d1 p1 => ?_
  obtain ⟨z, hz, p3⟩ := p1.eo
  cases d1 with
  | exc0 a b =>
    simp only [List.lookup_nil] at hz
    split at hz <;> cases hz
  | @exc a0 C0 d0 c0 vs0 fs0 a b c d =>
    by_cases m : ns.contains c0 = true
    · simp only [if_pos m] at hz
      obtain ⟨v, e1, e2⟩ := d.look hz
      exact ⟨_, _, _, _, v, rfl, r1.sub _ _ b, r1.sub _ _ c, e1, hc c0 (List.contains_iff_mem.mp m) _ a, p3.ok0 r1 e2⟩
    · simp only [if_neg m] at hz; cases hz
  | _ => cases hz
end
end G
namespace G
open PySem PySem.Spec PyProof.Rows L2
/-! ### isinstance with an own class -/
/-- the attribute __class__ of instances of the class at C -/
structure ClsK (K : PySem.W.Frag) (C : Addr) : Prop where
  ha : PySem.W.findIn K (.ref C) "__class__" = some (some (.builtin "object.__class__"))
  hn : PySem.W.specialIn K (.builtin "object.__class__") "__get__" = some (some (.builtin "getset_descriptor.__get__"))
  htk : PySem.W.takesIn K (.builtin "object.__class__") = some true
  hm : PySem.W.mroIn K C (.type "object") = some true
structure XIs (K : PySem.W.Frag) (C : Addr) : Prop extends ClsK K C where
  cls : (PySem.W.clsIn K C).isSome = true
  ga : PySem.W.findIn K (.ref C) "__getattribute__" = some (some (.builtin "BaseException.__getattribute__"))
  gg : PySem.W.findIn K (.ref C) "__getattr__" = some none
  sub : PySem.W.subIn K (.ref C) (.type "BaseException") = some true
end G
/-! zip(a, b, strict=True) of any two drawn things -/
/-! the strict zip while the tuple that was given out is still there -/
/-! dict(zip(text, tuple, strict=True)) -/
namespace ZS
open PySem PySem.Spec PyProof.Rows L2
def keysZ (z : Str) : List Key := z.cps.toList.map fun c => Sum.inr ⟨#[c]⟩
end ZS
namespace G
open PySem PySem.Spec PyProof.Rows L2
/-! ### d[k], or any item -/
def keyOf : D → Option Key
  | .int i => some (Sum.inl i)
  | .str x => some (Sum.inr x)
  | _ => none
def valK (kvs : List (Key × D)) (k : Key) : Option D := (kvs.find? fun kv => decide (kv.1 = k)).map (·.2)
def ixA (d e : D) : Option D := match d with
  | .dct kvs => (keyOf e).bind (valK kvs)
  | d => ixD d e
section
variable {X : Cx} {W : WX} {a b e : Expr} {ra rb : TE} {ta tb : ME D} {pos : Pos} {es : List Expr} {re : TA} {te : ME (List D)} {tg : Expr}
/-! ### sum -/
def intsOf : List D → Option (List Int)
  | [] => some []
  | .int b :: r => (intsOf r).map (b :: ·)
  | _ => none
theorem ints_denA {K : PySem.W.Frag} {cl : Cl} {ad : Ad} {F : Hp} : ∀ {vs : List V} {ds : List D} {bs : List Int}, DenA K cl ad F vs ds → intsOf ds = some bs → vs = bs.map V.int
  | _, _, _, .nil, e => by cases e; rfl
  | _, _, bs, .cons (d := d) h r, e => by
    cases h with
    | int i =>
      obtain ⟨l, e1, e2⟩ := Option.map_eq_some_iff.mp (show (intsOf _).map (i :: ·) = some bs from e)
      subst e2
      rw [List.map_cons, ints_denA r e1]
    | _ => cases e
/-! ### zip -/
/-! ### dict(zip(text, tuple, strict=True)) -/
def putKD (kvs : List (Key × D)) (k : Key) (v : D) : List (Key × D) :=
  if (kvs.any fun kv => decide (kv.1 = k)) = true then kvs.map (fun kv => if kv.1 = k then (kv.1, v) else kv) else kvs ++ [(k, v)]
def mergeKD (kvs more : List (Key × D)) : List (Key × D) := more.foldl (fun acc kv => putKD acc kv.1 kv.2) kvs
def dctZip : List D → Option D
  | [.str z, .tup ys] => if z.cps.toList.length = ys.length then some (.dct (mergeKD [] ((ZS.keysZ z).zip ys))) else none
  | _ => none
end
end G
/-! == and != by an own __eq__ -/
namespace G
open PySem PySem.Spec PyProof.Rows L2
/-! ### == and != of instances by an own __eq__ -/
end G
namespace G
open PySem PySem.Spec PyProof.Rows L2
/-! ### o.m(k = .., ..) -/
end G
namespace G
open PySem PySem.Spec PyProof.Rows L2
/-! ### expressions that make a new list or dict, which is one's own -/
def PoF (K : PySem.W.Frag) (cl : Cl) (W : WX) (ad : Ad) (σ : L2.St) (H F : Hp) (s : List Sl) (k : Sk) (r : RE D) (Q : V → Hp → Prop) : Prop :=
  match r with
  | .ok d k' => ∀ p o H' F', Rel K cl ad σ H' F' s k' → Ext ad k k' F H F' H' → H p = none → H' p = some o → F' p = none → Fre ad k' p → OwnOk K cl ad F' o d → Q (.ref p) H'
  | .ex c fs k' => ∀ cls dd H' F', Rel K cl ad σ H' F' s k' → Ext ad k k' F H F' H' → ExcIs K cl ad F' cls dd c fs → W cls dd σ H'
  | .no => False
def SnF (K : PySem.W.Frag) (cl : Cl) (W : WX) (r : TE) (t : ME D) : Prop :=
  ∀ ad σ H F s k Q, Rel K cl ad σ H F s k → PoF K cl W ad σ H F s k (t s k) Q → r σ H Q
structure UF (X : Cx) (W : WX) (r : TE) (t : ME D) (e : Expr) : Prop where
  pe : PE X e r
  sn : SnF X.K (clOf X.mg) W r t
/-- where nothing else lies by then -/
theorem PoF.new {K : PySem.W.Frag} {cl : Cl} {W : WX} {ad : Ad} {σ : L2.St} {H F H1 F1 : Hp} {s : List Sl} {k k1 : Sk} {d : D} {Q : V → Hp → Prop} {p : Addr} {o : HO} (h : PoF K cl W ad σ H F s k (.ok d k1) Q) (r1 : Rel K cl ad σ H1 F1 s k1) (x1 : Ext ad k k1 F H F1 H1) (hp : H1 p = none) (ho : OwnOk K cl ad F1 o d) : Q (.ref p) (upd H1 p o) := by
  have hF := r1.sub.free hp
  have nd : Fre ad k1 p := r1.dk.fre hp
  have h0 : H p = none := by
    cases q : H p with
    | none => rfl
    | some u => exact absurd hp (x1.there p (by rw [q]; exact fun z => nomatch z))
  have ex : Ext ad k k1 F H F1 (upd H1 p o) := x1.upd h0
  exact h p o _ F1 (r1.extd (Ext.refl.upd hp) (same_upd' r1.sub hF) (r1.dk.upd nd)) ex h0 upd_same hF nd ho
theorem RelS.own' {K : PySem.W.Frag} {cl : Cl} {ad : Ad} {H0 F0 : Hp} {k0 : Sk} {σ : L2.St} {H F H' F' : Hp} {s : List Sl} {k k' : Sk} (r : RelS K cl ad H0 F0 k0 σ H F s k) (i : Nat) {p : Addr} {o : HO} {d : D} (r' : Rel K cl ad σ H' F' s k') (x' : Ext ad k k' F H F' H') (h0 : H p = none) (hp : H' p = some o) (hF : F' p = none) (nd : Fre ad k' p) (ho : OwnOk K cl ad F' o d) :
    RelS K cl ad H0 F0 k0 (σ.set i (some (.ref p))) H' F' (s.set i (.own d)) k' := by
  have h00 : H0 p = none := by
    cases q : H0 p with
    | none => rfl
    | some o => exact absurd h0 (r.ext.there p (by rw [q]; exact fun z => nomatch z))
  have ne : ∀ (j : Nat) xs b, s[j]? = some (Sl.own xs) → σ[j]? = some (some (V.ref b)) → b ≠ p := fun j xs b h1 h2 e => by
    obtain ⟨b', vs', a1, a2, _⟩ := r.rel.own j xs h1
    rw [h2] at a1; cases a1
    rw [e, h0] at a2; cases a2
  have other : ∀ {j : Nat} {xs : D}, (s.set i (.own d))[j]? = some (Sl.own xs) → (i = j ∧ xs = d) ∨ (i ≠ j ∧ s[j]? = some (Sl.own xs)) := fun {j xs} h => by
    by_cases e : i = j
    · subst e
      by_cases hl : i < s.length
      · rw [List.getElem?_set_self hl] at h; cases h; exact .inl ⟨rfl, rfl⟩
      · rw [List.getElem?_eq_none (by simpa using hl)] at h; cases h
    · rw [List.getElem?_set_ne e] at h; exact .inr ⟨e, h⟩
  have lt : ∀ {xs : D}, (s.set i (.own d))[i]? = some (Sl.own xs) → i < σ.length := fun {xs} h => by
    have := (List.getElem?_eq_some_iff.mp h).1
    rw [List.length_set] at this
    rw [r.rel.len]; exact this
  refine ⟨⟨r'.sub, by rw [List.length_set, List.length_set]; exact r'.len, fun j d' h => ?_, fun j xs h => ?_, fun j1 j2 xs ys b h1 h2 h3 h4 => ?_, r'.dk⟩, r.ext.trans x', fun j xs b h1 h2 => ?_⟩
  · by_cases e : i = j
    · subst e
      by_cases hl : i < s.length
      · rw [List.getElem?_set_self hl] at h; cases h
      · rw [List.getElem?_eq_none (by simpa using hl)] at h; cases h
    · rw [List.getElem?_set_ne e] at h ⊢; exact r'.val j d' h
  · rcases other h with ⟨e, rfl⟩ | ⟨e, h'⟩
    · subst e
      exact ⟨p, o, List.getElem?_set_self (lt h), hp, hF, nd, ho⟩
    · obtain ⟨b, vs', a1, a2, a3, a4, a5⟩ := r'.own j xs h'
      exact ⟨b, vs', by rw [List.getElem?_set_ne e]; exact a1, a2, a3, a4, a5⟩
  · rcases other h1 with ⟨e1, _⟩ | ⟨e1, q1⟩
    · rcases other h2 with ⟨e2, _⟩ | ⟨e2, q2⟩
      · rw [← e1, ← e2]
      · subst e1
        rw [List.getElem?_set_self (lt h1)] at h3
        rw [List.getElem?_set_ne e2] at h4
        cases h3
        exact absurd rfl (ne j2 ys p q2 h4)
    · rcases other h2 with ⟨e2, _⟩ | ⟨e2, q2⟩
      · subst e2
        rw [List.getElem?_set_self (lt h2)] at h4
        rw [List.getElem?_set_ne e1] at h3
        cases h4
        exact absurd rfl (ne j1 xs p q1 h3)
      · rw [List.getElem?_set_ne e1] at h3
        rw [List.getElem?_set_ne e2] at h4
        exact r'.inj j1 j2 xs ys b q1 q2 h3 h4
  · rcases other h1 with ⟨e1, _⟩ | ⟨e1, q1⟩
    · subst e1
      rw [List.getElem?_set_self (lt h1)] at h2
      cases h2
      exact h00
    · rw [List.getElem?_set_ne e1] at h2
      exact r.fr j xs b q1 h2
section
variable {X : Cx} {W : WX} {e a b : Expr} {ra rb : TE} {ta tb : ME D} {pos : Pos} {es : List Expr} {re : TA} {te : ME (List D)} {trs : List (TE × TE)} {tp : ME (List (D × D))} {ks : List (Option Expr)} {vs : List Expr}
/-- x = e, x one's own from here on -/
def sAsgO (i : Nat) (t : ME D) : MS := sb t fun d => fun s k => .nx (s.set i (.own d)) k
theorem us_asgO {i : Nat} {x : Str} {pos' : Pos} (hN : X.N.Nodup) (h : UF X W ra ta e) (hi : X.N[i]? = some x := by rfl) (hx : Loc X.env.scope x := by first | exact .inl rfl | exact .inr rfl) (hs : swapsWith e (some (.Name x pos')) pos.line X.env = pure false := by rfl)
    (hf : X.fn x = true ∨ X.env.scope.names.lookup x = some .local := by first | exact .inl rfl | exact .inr rfl) : US X W (tAsg ra (gName i)) (sAsgO i ta) (.Assign [.Name x pos'] e pos) := by
  refine ⟨ps_set hN hi hx h.pe hs hf, fun ad H0 F0 k0 σ H F s k E rel p => ?_⟩
  refine h.sn ad σ H F s k _ rel.rel ?_
  unfold sAsgO sb at p
  cases q : ta s k with
  | no => rw [q] at p; exact p
  | ex c fs k' => rw [q] at p; exact fun cls dd H1 F1 r1 x1 d1 => p cls dd σ H1 F1 (rel.step r1 x1) x1.sub d1
  | ok d k' =>
    rw [q] at p
    intro b o H' F' r' x' h0 hb hF nd ho
    exact p _ H' F' (rel.own' i r' x' h0 hb hF nd ho) x'.sub
theorem uf_lst (h : UA X W re te es) : UF X W (tLst re) (dLst te) (.List es pos) := by
  refine ⟨pe_lst h.pa, fun ad σ H F s k Q rel p => ?_⟩
  refine h.sn ad σ H F s k _ rel ?_
  unfold dLst eb at p
  cases q : te s k with
  | no => rw [q] at p; exact p
  | ex c fs k' => rw [q] at p; exact p
  | ok ds k1 =>
    rw [q] at p
    intro xs H1 F1 r1 x1 d1
    dsimp only [eo] at p
    by_cases hl : ds.length ≤ sizeLine
    · rw [if_pos hl] at p
      exact ⟨by rw [d1.length]; exact hl, fun b hb => p.new r1 x1 hb d1⟩
    · rw [if_neg hl] at p; exact False.elim p
end
end G
namespace G
open PySem PySem.Spec PyProof.Rows L2
/-! ### the deck -/
def kvD (c : Addr) (k : Dk) : List (Key × V) := [(Sum.inr (Str.ofString "cells"), .ref c), (Sum.inr (nmOf k.bl), .int k.mixed), (Sum.inr (ntOf k.dr), .int k.turn)]
theorem val_c {c : Addr} {k : Dk} : valV (kvD c k) (Sum.inr (Str.ofString "cells")) = some (.ref c) := rfl
theorem val_m {c : Addr} {k : Dk} : valV (kvD c k) (Sum.inr (nmOf k.bl)) = some (.int k.mixed) := by
  obtain ⟨cs, m, t, bl, dr⟩ := k
  cases bl <;> rfl
theorem val_t {c : Addr} {k : Dk} : valV (kvD c k) (Sum.inr (ntOf k.dr)) = some (.int k.turn) := by
  obtain ⟨cs, m, t, bl, dr⟩ := k
  cases bl <;> cases dr <;> rfl
theorem put_m {c : Addr} {k : Dk} {i : Int} : putK (kvD c k) (Sum.inr (nmOf k.bl)) (.int i) = kvD c { k with mixed := i } := by
  obtain ⟨cs, m, t, bl, dr⟩ := k
  cases bl <;> cases dr <;> rfl
theorem put_t {c : Addr} {k : Dk} {i : Int} : putK (kvD c k) (Sum.inr (ntOf k.dr)) (.int i) = kvD c { k with turn := i } := by
  obtain ⟨cs, m, t, bl, dr⟩ := k
  cases bl <;> cases dr <;> rfl
section
variable {X : Cx} {W : WX} {e a b o : Expr} {ra rb ro : TE} {ta tb to : ME D} {pos : Pos}
/-- deck["mixed"], deck["turn"] -/
def dkGet (key : Str) (to : ME D) : ME D := eb to fun x => fun _ k => match x, k.dk with
  | .deck, some dk => if key = ntOf dk.dr then .ok (.int dk.turn) k else if key = nmOf dk.bl then .ok (.int dk.mixed) k else .no
  | _, _ => .no
theorem u_dkGet {key : Str} {j} {p1 : Pos} (hu : X.A.units + 1 < cLine) (ho : UE X W ro to o) : UE X W (tDGet ro (tC (.str key))) (dkGet key to) (.Subscript o (.Constant (.str key) j p1) pos) := by
  refine ⟨pe_dget hu ho.pe pe_str (fun _ _ => rfl), fun ad σ H F s k Q rel p => ?_⟩
  refine ho.sn.bind rel p fun x d H1 F1 k1 _ r1 x1 d1 p1 => ?_
  cases d1 with
  | deck =>
    cases w : k1.dk with
    | none => simp only [w] at p1; exact False.elim p1
    | some dk =>
      simp only [w] at p1
      obtain ⟨f1, f2, nac, hA, hC⟩ := r1.dk.d dk w
      have hA : H1 ad.1 = some (.dK (kvD ad.2.1 dk)) := hA
      by_cases c1 : key = ntOf dk.dr
      · rw [if_pos c1] at p1
        subst c1
        exact ⟨ad.1, .int dk.turn, rfl, by rw [← val_t (c := ad.2.1)]; exact DGet.k (k := Sum.inr (ntOf dk.dr)) hA, p1.ok0 r1 (.int _)⟩
      · rw [if_neg c1] at p1
        by_cases c2 : key = nmOf dk.bl
        · rw [if_pos c2] at p1
          subst c2
          exact ⟨ad.1, .int dk.mixed, rfl, by rw [← val_m (c := ad.2.1)]; exact DGet.k (k := Sum.inr (nmOf dk.bl)) hA, p1.ok0 r1 (.int _)⟩
        · rw [if_neg c2] at p1; exact False.elim p1
  | _ => exact False.elim p1
/-- the deck has changed -/
theorem RelS.deck {K : PySem.W.Frag} {cl : Cl} {ad : Ad} {H0 F0 : Hp} {k0 : Sk} {σ : L2.St} {H F : Hp} {s : List Sl} {k : Sk} (r : RelS K cl ad H0 F0 k0 σ H F s k) {dk dk' : Dk} (w : k.dk = some dk) {b : Addr} {u : HO} (hb : b = ad.1 ∨ b = ad.2.1)
    (hA : upd H b u ad.1 = some (.dK (kvD ad.2.1 dk'))) (hC : upd H b u ad.2.1 = some (.lst (dk'.cells.map V.int))) : RelS K cl ad H0 F0 k0 σ (upd H b u) F s ⟨some dk', k.me⟩ := by
  obtain ⟨f1, f2, nac, gA, gC⟩ := r.rel.dk.d dk w
  have fb : F b = none := by rcases hb with rfl | rfl <;> assumption
  have nu : NT u := by
    rcases hb with rfl | rfl
    · rw [upd_same] at hA; cases hA; exact fun _ z => nomatch z
    · rw [upd_same] at hC; cases hC; exact fun _ z => nomatch z
  have hs : (⟨some dk', k.me⟩ : Sk).sh = k.sh := by unfold Sk.sh; rw [w]; rfl
  have nf : ∀ c, Fre ad k c → c ≠ b := fun c hc => by
    have := hc.1 (by rw [w]; rfl)
    rcases hb with rfl | rfl
    · exact this.1
    · exact this.2
  have dsome : k0.dk.isSome = true := by
    have := congrArg (·.1) r.ext.some
    have h2 : k.dk.isSome = k0.dk.isSome := this
    rw [← h2, w]; rfl
  refine ⟨⟨same_upd' r.rel.sub fb, r.rel.len, r.rel.val, fun i xs h => ?_, r.rel.inj, ⟨fun d h => ?_, fun c fs h => ?_⟩⟩, ⟨hs.trans r.ext.some, r.ext.sub, fun c v h n => ?_, fun c h => ?_, r.ext.nofz.upd nu⟩, r.fr⟩
  · obtain ⟨c, vs, h1, h2, h3, h4, h5⟩ := r.rel.own i xs h
    exact ⟨c, vs, h1, by rw [upd_ne (nf c h4)]; exact h2, h3, h4.sh hs, h5⟩
  · cases h
    exact ⟨f1, f2, nac, hA, hC⟩
  · have h' : k.me = some (c, fs) := h
    obtain ⟨g1, C, dx, ws, g2, g3, g4⟩ := r.rel.dk.m c fs h'
    have nb : ad.2.2 ≠ b := by
      intro z
      rcases hb with q | q
      · rw [z, q, gA] at g3; cases g3
      · rw [z, q, gC] at g3; cases g3
    exact ⟨g1, C, dx, ws, g2, by rw [upd_ne nb]; exact g3, g4⟩
  · have nb : c ≠ b := by
      have := n.1 dsome
      rcases hb with rfl | rfl
      · exact this.1
      · exact this.2
    rw [upd_ne nb]; exact r.ext.keep c v h n
  · by_cases nb : c = b
    · subst nb; rw [upd_same]; exact fun z => nomatch z
    · rw [upd_ne nb]; exact r.ext.there c h
/-- deck["turn"] = e -/
def sDkSet (key : Str) (to te : ME D) : MS := sb te fun y => sb to fun x => fun s k => match x, y, k.dk with
  | .deck, .int i, some dk => if key = ntOf dk.dr then .nx s ⟨some { dk with turn := i }, k.me⟩ else if key = nmOf dk.bl then .nx s ⟨some { dk with mixed := i }, k.me⟩ else .no
  | _, _, _ => .no
theorem us_dkSet {key : Str} {j} {p1 pos' : Pos} (hu : X.A.units + 1 < cLine) (ho : UE X W ro to o) (he : UE X W ra ta a) (hs : swapsWith a (some (.Subscript o (.Constant (.str key) j p1) pos')) pos.line X.env = pure false := by rfl) :
    US X W (sDPut ro (tC (.str key)) ra) (sDkSet key to ta) (.Assign [.Subscript o (.Constant (.str key) j p1) pos'] a pos) := by
  refine ⟨ps_dput hu ho.pe pe_str he.pe hs, fun ad H0 F0 k0 σ H F s k E rel p => ?_⟩
  refine he.sn.sbind rel p fun v d H1 F1 k1 _ r1 x1 d1 p1 => ?_
  refine ho.sn.sbind r1 p1 fun y e H2 F2 k2 _ r2 x2 d2 p2 => ?_
  cases d2 with
  | deck =>
    have d1' := d1.mono x2.sub
    cases d1' with
    | int i =>
      cases w : k2.dk with
      | none => simp only [w] at p2; exact False.elim p2
      | some dk =>
        simp only [w] at p2
        obtain ⟨f1, f2, nac, hA, hC⟩ := r2.rel.dk.d dk w
        have hA : H2 ad.1 = some (.dK (kvD ad.2.1 dk)) := hA
        by_cases c1 : key = ntOf dk.dr
        · rw [if_pos c1] at p2
          subst c1
          refine ⟨ad.1, _, rfl, DPut.k (k := Sum.inr (ntOf dk.dr)) hA (show 3 < sizeLine by decide), ?_⟩
          rw [put_t]
          exact p2 σ _ F2 (r2.deck w (.inl rfl) upd_same (by rw [upd_ne nac.symm]; exact hC)) (Same.refl _)
        · rw [if_neg c1] at p2
          by_cases c2 : key = nmOf dk.bl
          · rw [if_pos c2] at p2
            subst c2
            refine ⟨ad.1, _, rfl, DPut.k (k := Sum.inr (nmOf dk.bl)) hA (show 3 < sizeLine by decide), ?_⟩
            rw [put_m]
            exact p2 σ _ F2 (r2.deck w (.inl rfl) upd_same (by rw [upd_ne nac.symm]; exact hC)) (Same.refl _)
          · rw [if_neg c2] at p2; exact False.elim p2
    | _ => exact False.elim p2
  | _ => exact False.elim p2
/-- an expression whose evaluation changes the deck -/
theorem Rel.deckE {K : PySem.W.Frag} {cl : Cl} {ad : Ad} {σ : L2.St} {H F : Hp} {s : List Sl} {k : Sk} (r : Rel K cl ad σ H F s k) {dk dk' : Dk} (w : k.dk = some dk) {b : Addr} {u : HO} (hb : b = ad.1 ∨ b = ad.2.1)
    (hA : upd H b u ad.1 = some (.dK (kvD ad.2.1 dk'))) (hC : upd H b u ad.2.1 = some (.lst (dk'.cells.map V.int))) (fr : ∀ (i : Nat) (xs : D) (b : Addr), s[i]? = some (Sl.own xs) → σ[i]? = some (some (V.ref b)) → True) :
    Rel K cl ad σ (upd H b u) F s ⟨some dk', k.me⟩ ∧ Ext ad k ⟨some dk', k.me⟩ F H F (upd H b u) := by
  obtain ⟨f1, f2, nac, gA, gC⟩ := r.dk.d dk w
  have fb : F b = none := by rcases hb with rfl | rfl <;> assumption
  have hs : (⟨some dk', k.me⟩ : Sk).sh = k.sh := by unfold Sk.sh; rw [w]; rfl
  have nu : NT u := by
    rcases hb with rfl | rfl
    · rw [upd_same] at hA; cases hA; exact fun _ z => nomatch z
    · rw [upd_same] at hC; cases hC; exact fun _ z => nomatch z
  have dsome : k.dk.isSome = true := by rw [w]; rfl
  have nf : ∀ c, Fre ad k c → c ≠ b := fun c hc => by
    have := hc.1 dsome
    rcases hb with rfl | rfl
    · exact this.1
    · exact this.2
  refine ⟨⟨same_upd' r.sub fb, r.len, r.val, fun i xs h => ?_, r.inj, ⟨fun d h => ?_, fun c fs h => ?_⟩⟩, ⟨hs, Same.refl _, fun c v h n => ?_, fun c h => ?_, (Nz.upd (fun _ o h n f => ⟨f, o, h, n⟩) nu)⟩⟩
  · obtain ⟨c, vs, h1, h2, h3, h4, h5⟩ := r.own i xs h
    exact ⟨c, vs, h1, by rw [upd_ne (nf c h4)]; exact h2, h3, h4.sh hs, h5⟩
  · cases h
    exact ⟨f1, f2, nac, hA, hC⟩
  · have h' : k.me = some (c, fs) := h
    obtain ⟨g1, C, dx, ws, g2, g3, g4⟩ := r.dk.m c fs h'
    have nb : ad.2.2 ≠ b := by
      intro z
      rcases hb with q | q
      · rw [z, q, gA] at g3; cases g3
      · rw [z, q, gC] at g3; cases g3
    exact ⟨g1, C, dx, ws, g2, by rw [upd_ne nb]; exact g3, g4⟩
  · rw [upd_ne (nf c n)]; exact h
  · by_cases nb : c = b
    · subst nb; rw [upd_same]; exact fun z => nomatch z
    · rw [upd_ne nb]; exact h
theorem dpAll_ints {K : PySem.W.Frag} {H : Hp} : ∀ ns : List Int, DpAll K H (ns.map V.int) (ns.map PyData.int)
  | [] => .nil
  | n :: ns => .cons (.int n) (dpAll_ints ns)
theorem shaped_ints (ns : List Int) : SeqAt.shaped (.list (ns.map PyData.int)) = true := by
  have h1 : ∀ l : List Int, PyData.canLayAll0 (l.map PyData.int) = true := fun l => by
    induction l with
    | nil => rfl
    | cons a r ih => show (PyData.canLay0 (.int a) && _) = true; rw [ih]; rfl
  have h2 : ∀ l : List Int, PyData.depthAll (l.map PyData.int) ≤ 1 := fun l => by
    induction l with
    | nil => decide
    | cons a r ih =>
      simp only [List.map_cons, PyData.depthAll, PyData.depth]
      omega
  unfold SeqAt.shaped
  rw [Bool.and_eq_true, decide_eq_true_eq]
  refine ⟨h1 ns, ?_⟩
  have := h2 ns
  simp only [PyData.depth]
  omega
/-- deck["cells"] != [] -/
def dkHas (to : ME D) : ME D := eb to fun x => fun _ k => match x, k.dk with
  | .deck, some dk => .ok (.bl (!dk.cells.isEmpty)) k
  | _, _ => .no
theorem ut_dkHas {j} {p1 p2 ps : Pos} (hu : X.A.units + 64 < cLine) (ho : UE X W ro to o) : UT X W (tTest (tOp (rNeD X.K) (tDGet ro (tC (.str (Str.ofString "cells")))) (tLst tNil))) (dB (dkHas to)) (.Compare (.Subscript o (.Constant (.str (Str.ofString "cells")) j p1) ps) [.NotEq] [.List [] p2] pos) := by
  refine ⟨pt_cmpR (op_neD hu) (pe_dget (by omega) ho.pe pe_str (fun _ _ => rfl)) (pe_lst pa_nil) (nomark _), sn_test fun ad σ H F s k Q rel p => ?_⟩
  refine ho.sn.bind rel p fun x d H1 F1 k1 _ r1 x1 d1 p1 => ?_
  cases d1 with
  | deck =>
    cases w : k1.dk with
    | none => simp only [w] at p1; exact False.elim p1
    | some dk =>
      simp only [w] at p1
      obtain ⟨f1, f2, nac, hA, hC⟩ := r1.dk.d dk w
      have hA : H1 ad.1 = some (.dK (kvD ad.2.1 dk)) := hA
      refine ⟨ad.1, .ref ad.2.1, rfl, by rw [← val_c (k := dk)]; exact DGet.k (k := Sum.inr (Str.ofString "cells")) hA, Nat.zero_le _, fun q hq => ?_⟩
      have n := New.one (o := .lst []) r1.sub hq
      have nC : ad.2.1 ≠ q := ne_of_none hC hq
      have e : (!PyData.eqv (.list (dk.cells.map PyData.int)) (.list [])) = !dk.cells.isEmpty := by
        cases dk.cells <;> rfl
      refine ⟨.list (dk.cells.map PyData.int), .list [], .lst (SqL.of (by rw [upd_ne nC]; exact hC)) (dpAll_ints _), .lst (SqL.of upd_same) .nil, shaped_ints _, by decide, ?_⟩
      rw [e]
      exact p1.ok r1 n (.bl _)
  | _ => exact False.elim p1
/-- deck["cells"].pop() -/
def dkPop (to : ME D) : ME D := eb to fun x => fun _ k => match x, k.dk with
  | .deck, some dk => (match dk.cells.getLast? with
    | some c => .ok (.int c) ⟨some { dk with cells := dk.cells.dropLast }, k.me⟩
    | none => .no)
  | _, _ => .no
theorem u_dkPop {j} {p1 ps apos : Pos} (hu : X.A.units + 1 < cLine) (ho : UE X W ro to o) (hbase : attributeBase (.Subscript o (.Constant (.str (Str.ofString "cells")) j p1) ps) "pop" X.env (eval (.Subscript o (.Constant (.str (Str.ofString "cells")) j p1) ps) X.env) = eval (.Subscript o (.Constant (.str (Str.ofString "cells")) j p1) ps) X.env := by rfl) (hline : (apos.endLine == pos.line) = true := by rfl) :
    UE X W (tBM0 X.K "list" rPop (tDGet ro (tC (.str (Str.ofString "cells"))))) (dkPop to) (.Call (.Attribute (.Subscript o (.Constant (.str (Str.ofString "cells")) j p1) ps) "pop" apos) [] [] pos) := by
  refine ⟨pe_bm0 PySem.F.plainAttrs_list PySem.F.slot_list_pop PySem.F.type_list_pop mt_pop (pe_dget hu ho.pe pe_str (fun _ _ => rfl)) hbase hline, fun ad σ H F s k Q rel p => ?_⟩
  refine ho.sn.bind rel p fun x d H1 F1 k1 _ r1 x1 d1 p1 => ?_
  cases d1 with
  | deck =>
    cases w : k1.dk with
    | none => simp only [w] at p1; exact False.elim p1
    | some dk =>
      simp only [w] at p1
      obtain ⟨f1, f2, nac, hA, hC⟩ := r1.dk.d dk w
      have hA : H1 ad.1 = some (.dK (kvD ad.2.1 dk)) := hA
      cases l : dk.cells.getLast? with
      | none => simp only [l] at p1; exact False.elim p1
      | some c =>
        simp only [l] at p1
        refine ⟨ad.1, .ref ad.2.1, rfl, by rw [← val_c (k := dk)]; exact DGet.k (k := Sum.inr (Str.ofString "cells")) hA, .inl ⟨rfl, _, SqL.of hC⟩, ad.2.1, dk.cells.map V.int, .int c, rfl, rfl, hC, ?_, ?_⟩
        · rw [List.length_map, List.getElem?_map, ← List.getLast?_eq_getElem?, l]; rfl
        · obtain ⟨g1, g2⟩ := r1.deckE (dk' := { dk with cells := dk.cells.dropLast }) w (.inr rfl) (u := .lst (dk.cells.map V.int).dropLast) (by rw [upd_ne nac]; exact hA) (by rw [upd_same]; simp [List.map_dropLast]) (fun _ _ _ _ _ => trivial)
          exact p1 _ _ F1 g1 g2 (.int c)
  | _ => exact False.elim p1
/-- deck["cells"].append(e) -/
def sDkApp (to te : ME D) : MS := sb to fun x => fun s k => match x, k.dk with
  | .deck, some _ => sb te (fun y => fun s k => match y, k.dk with
    | .int i, some dk => if dk.cells.length < sizeLine then .nx s ⟨some { dk with cells := dk.cells ++ [i] }, k.me⟩ else .no
    | _, _ => .no) s k
  | _, _ => .no
theorem us_dkApp {j} {p1 ps apos cpos : Pos} (hu : X.A.units + 1 < cLine) (ho : UE X W ro to o) (he : UE X W ra ta a) (hs : swapsWith (.Call (.Attribute (.Subscript o (.Constant (.str (Str.ofString "cells")) j p1) ps) "append" apos) [a] [] cpos) none pos.line X.env = pure false := by rfl)
    (hbase : attributeBase (.Subscript o (.Constant (.str (Str.ofString "cells")) j p1) ps) "append" X.env (eval (.Subscript o (.Constant (.str (Str.ofString "cells")) j p1) ps) X.env) = eval (.Subscript o (.Constant (.str (Str.ofString "cells")) j p1) ps) X.env := by rfl)
    (hfew : ((backTo cpos (starEach [a] X.env)).all (fun x => !x.1) && (backToKw cpos (keywordEach [] X.env)).all (fun x => x.1.isSome)
      && decide ([a].length + ([] : List Keyword).length + (if ([] : List Keyword).isEmpty then 0 else 1) < 30)) = true := by rfl)
    (hline : (apos.endLine == cpos.line) = true := by rfl) (hst : starEach [a] X.env = (false, eval a X.env) :: starEach [] X.env := by rfl) (hplain : (backTo cpos (starEach [] X.env)).any (·.1) = false := by rfl) :
    US X W (tDrop (tBM X.K "list" rAppend (tDGet ro (tC (.str (Str.ofString "cells")))) (tCons ra tNil))) (sDkApp to ta) (.Expr (.Call (.Attribute (.Subscript o (.Constant (.str (Str.ofString "cells")) j p1) ps) "append" apos) [a] [] cpos) pos) := by
  refine ⟨ps_expr (pe_bm PySem.F.plainAttrs_list PySem.F.slot_list_append PySem.F.type_list_append mt_append (pe_dget hu ho.pe pe_str (fun _ _ => rfl)) (pa_cons he.pe pa_nil hst) hbase hfew hline hst hplain) hs, fun ad H0 F0 k0 σ H F s k E rel p => ?_⟩
  refine ho.sn.sbind rel p fun x d H1 F1 k1 _ r1 x1 d1 p1 => ?_
  cases d1 with
  | deck =>
    cases w : k1.dk with
    | none => simp only [w] at p1; exact False.elim p1
    | some dk =>
      simp only [w] at p1
      obtain ⟨f1, f2, nac, hA, hC⟩ := r1.rel.dk.d dk w
      have hA : H1 ad.1 = some (.dK (kvD ad.2.1 dk)) := hA
      refine ⟨ad.1, .ref ad.2.1, rfl, by rw [← val_c (k := dk)]; exact DGet.k (k := Sum.inr (Str.ofString "cells")) hA, .inl ⟨rfl, _, SqL.of hC⟩, ?_⟩
      refine he.sn.sbind r1 p1 fun y e H2 F2 k2 _ r2 x2 d2 p2 => ?_
      cases d2 with
      | int i =>
        cases w2 : k2.dk with
        | none => simp only [w2] at p2; exact False.elim p2
        | some dk2 =>
          simp only [w2] at p2
          obtain ⟨g1, g2, nac2, hA2, hC2⟩ := r2.rel.dk.d dk2 w2
          have hA2 : H2 ad.1 = some (.dK (kvD ad.2.1 dk2)) := hA2
          by_cases hl : dk2.cells.length < sizeLine
          · rw [if_pos hl] at p2
            refine ⟨ad.2.1, dk2.cells.map V.int, .int i, rfl, rfl, hC2, by rw [List.length_map]; exact hl, ?_⟩
            exact p2 σ _ F2 (r2.deck (dk' := { dk2 with cells := dk2.cells ++ [i] }) w2 (.inr rfl) (by rw [upd_ne nac2]; exact hA2) (by rw [upd_same]; simp)) (Same.refl _)
          · rw [if_neg hl] at p2; exact False.elim p2
      | _ => exact False.elim p2
  | _ => exact False.elim p1
end
end G
/-! the head's facts: classes, exceptions -/
namespace HX
open PySem PySem.Spec PyProof.Rows L2 G
theorem XcD.txt {P : Program} {K : PySem.W.Frag} {h : Heap} {mg : Str → Option Value} {d : XcD} (X : K.In h) (G : h.Ns mainGlobals mg) (e : fnX K d = d.val) (c : d.ok P K = true) : XI.ExcTxt P K mg d.nm d.p d.qual d.a d.b d.q (He.ga K d.nm) (He.ma K (He.ga K d.nm) "__init__") := by
  unfold XcD.ok at c
  simp only [Bool.and_eq_true, Bool.not_eq_true', eqO, eqB, decide_eq_true_eq] at c
  obtain ⟨⟨⟨⟨⟨⟨⟨⟨⟨⟨⟨⟨⟨⟨⟨⟨⟨⟨⟨⟨c1, c2⟩, ⟨⟨⟨n1, n2⟩, n3⟩, n4⟩⟩, c4⟩, c5⟩, c6⟩, c7⟩, c8⟩, c9⟩, c10⟩, c11⟩, c12⟩, c13⟩, c14⟩, c15⟩, c16⟩, c17⟩, c18⟩, c19⟩, c20⟩, c21⟩ := c
  refine ⟨PySem.W.mg_of X G c1, PySem.W.mg_none_of X G c2, ⟨n1, n2, n3, n4⟩, c4, c5, c6, c7, c8, c9, c10, c11, c12, c13, c14, c15, c16, c17, c18, c19, c20, ?_⟩
  unfold fnX at e
  cases q : K.lookup (He.ma K (He.ga K d.nm) "__init__") with
  | none => rw [q] at e; cases e
  | some o =>
    obtain ⟨oc, od, dt, osl⟩ := o
    rw [q] at e c21
    cases dt with
    | func fd =>
      obtain ⟨n1, n2, n3, n4, n5, n6, n7, n8, n9, n10, n11, n12, n13, n14, n15⟩ := fd
      have e2 : (some (n1, n2, n3, n4, n5, n6, n8, n9, n15) : FnX) = some (Str.ofString "__init__", d.qual, XI.iA d.p d.a d.b, .stmts (XI.iB d.p d.q), XI.iS d.p, mainGlobals, .none, .none, builtinsNs) := e
      simp only [Option.some.injEq, Prod.mk.injEq] at e2
      obtain ⟨h1, h2, h3, h4, h5, h6, h8, h9, h15⟩ := e2
      subst h1 h2 h3 h4 h5 h6 h8 h9 h15
      dsimp only at c21
      obtain ⟨k12, k3⟩ := He.ba c21
      obtain ⟨k1, k2⟩ := He.ba k12
      split at k2
      · rename_i n cl hcl
        rw [Bool.and_eq_true, beq_iff_eq] at k2
        obtain ⟨rfl, k2⟩ := k2
        split at k2
        · rename_i c hc
          obtain rfl := beq_iff_eq.mp k2
          split at k3
          · rename_i cc
            split at k3
            · rename_i vs hcc
              split at k3
              · rename_i file tf hv
                exact ⟨oc, od, n10, n11, n12, _, n14, osl, _, _, _, _, _, _, _, rfl, k1, hc, rfl, rfl, hcc, rfl, hv, k3⟩
              · cases k3
            · cases k3
          · cases k3
        · cases k2
      · cases k2
    | _ => cases e
section
variable {P : Program} {fa : List He.Fa} {fn : List He.DefD} {fx : List Fx} {xs : List XcD} {K : PySem.W.Frag}
theorem SaysX.d (c : SaysX P fa fn fx xs K) : He.SaysD fa fn K := congrArg (fun z : AlX => z.1) c
theorem SaysX.x (c : SaysX P fa fn fx xs K) (i : Nat) {f : Fx} (h : fx[i]? = some f := by rfl) : f K = true := by
  have c1 := (He.ba (show ((fx.all fun f => f K) && xs.all fun d => d.ok P K) = true from congrArg (fun z : AlX => z.2.1) c)).1
  exact List.all_eq_true.mp c1 f (List.mem_of_getElem? h)
theorem SaysX.exc (c : SaysX P fa fn fx xs K) {hp : Heap} {mg : Str → Option Value} (X : K.In hp) (G : hp.Ns mainGlobals mg) (i : Nat) {d : XcD} (h : xs[i]? = some d := by rfl) : XI.ExcTxt P K mg d.nm d.p d.qual d.a d.b d.q (He.ga K d.nm) (He.ma K (He.ga K d.nm) "__init__") := by
  have c2 := (He.ba (show ((fx.all fun f => f K) && xs.all fun d => d.ok P K) = true from congrArg (fun z : AlX => z.2.1) c)).2
  have e : xs.map (fun d => fnX K d) = xs.map XcD.val := congrArg (fun z : AlX => z.2.2) c
  have e2 : (xs.map fun d => fnX K d)[i]? = (xs.map XcD.val)[i]? := by rw [e]
  rw [List.getElem?_map, List.getElem?_map, h] at e2
  exact XcD.txt X G (Option.some.inj e2) (List.all_eq_true.mp c2 d (List.mem_of_getElem? h))
end
/-! ### further facts, as Bools -/
theorem xfld_ok {nm f : Str} {K : PySem.W.Frag} (h : xfldB nm f K = true) : XFld K (He.ga K nm) f := by
  unfold xfldB at h
  simp only [Bool.and_eq_true, eqO, eqB, decide_eq_true_eq] at h
  exact ⟨h.1.1.1.1, h.1.1.1.2, h.1.1.2, h.1.2, h.2⟩
theorem clsk_ok {nm : Str} {K : PySem.W.Frag} (h : clskB nm K = true) : ClsK K (He.ga K nm) := by
  unfold clskB at h
  simp only [Bool.and_eq_true, eqO, eqB, decide_eq_true_eq] at h
  exact ⟨h.1.1.1, h.1.1.2, h.1.2, h.2⟩
theorem xis_ok {nm : Str} {K : PySem.W.Frag} (h : xisB nm K = true) : XIs K (He.ga K nm) := by
  unfold xisB at h
  obtain ⟨h1, h2⟩ := He.ba h
  simp only [Bool.and_eq_true, eqO, eqB, decide_eq_true_eq] at h2
  exact ⟨clsk_ok h1, h2.1.1.1, h2.1.1.2, h2.1.2, h2.2⟩
theorem kit_ok {nm nm2 : Str} {b : Bool} {K : PySem.W.Frag} (h : kitB2 nm nm2 b K = true) : PySem.W.kitOne K (.ref (He.ga K nm)) (.ref (He.ga K nm2)) = some b := by
  unfold kitB2 eqB at h
  exact of_decide_eq_true h
theorem sys_ok {K : PySem.W.Frag} {h : Heap} (X : K.In h) (e : sysB K = true) : ∃ o, h.get? sysModules = some o := by
  obtain ⟨o, eo⟩ := Option.isSome_iff_exists.mp (show (K.lookup sysModules).isSome = true from e)
  exact ⟨o, X _ _ eo⟩
end HX
namespace G
open PySem PySem.Spec PyProof.Rows L2
theorem hu1 {j : Nat} {A : Around} (hr : Room j A) : A.units + 1 < cLine := by
  have := hr.un
  omega
theorem hu64 {j : Nat} {A : Around} (hr : Room j A) : A.units + 64 < cLine := by
  have := hr.un
  omega
theorem castG {X : Cx} {is : List Nat} {r r' : TG} {f : MG} {tg : Expr} (h : UG X is r f tg) (hr : r = r' := by first | (dsimp only [bk, Cx.blk, cxOf]; done) | rfl) : UG X is r' f tg := hr ▸ h
/-! ### min, max of two -/
/-! ### text.index(text) -/
def sindexD : D → List D → Option D
  | .str a, [.str b] => match Builtin.Str.occurrences a b 0 a.length 1 with
    | i :: _ => some (.int (i : Nat))
    | [] => none
  | _, _ => none
/-! ### list * int -/
section
variable {X : Cx} {W : WX} {a b : Expr} {ra rb : TE} {ta tb : ME D} {pos : Pos}
theorem hu200 {j : Nat} {A : Around} (hr : Room j A) : A.units + 200 < cLine := by
  have := hr.un
  omega
end
/-! ### facts for the ending -/
theorem xf_nil {K : PySem.W.Frag} {cl : Cl} {f : Str} : ∀ c ∈ ([] : List Str), ∀ C, cl c = some C → XFld K C f := fun _ h => nomatch h
theorem xf_cons {K : PySem.W.Frag} {cl : Cl} {f : Str} {x : Str} {C : Addr} {l : List Str} (hc : cl x = some C) (h : XFld K C f) (r : ∀ c ∈ l, ∀ C, cl c = some C → XFld K C f) : ∀ c ∈ x :: l, ∀ C, cl c = some C → XFld K C f := fun c hm C' hC => by
  rcases List.mem_cons.mp hm with rfl | hm
  · rw [hc] at hC; cases hC; exact h
  · exact r c hm C' hC
end G
namespace G
open PySem PySem.Spec PyProof.Rows L2
/-! ### the instance that was made, changed and is handed back: frozen -/
/-! ### C(k = e, ..): making with keywords alone -/
/-! ### raise C() -/
structure ExcO (K : PySem.W.Frag) (mg : Str → Option Value) (nm : Str) (C : Addr) : Prop where
  gC : mg nm = some (.ref C)
  ex : PySem.W.excIn K C [.type "Exception", .type "BaseException", .type "object"] "Exception.__new__" = true
  kp : PySem.W.keepIn K (.ref C) = true
  sub : PySem.W.subIn K (.ref C) (.type "BaseException") = some true
  ty : PySem.W.typeIn K (.ref C) = some (.type "type")
section
variable {X : Cx} {W : WX} {C : Addr} {nm : Str} {p pos pos2 : Pos}
theorem pmk_own0 (T : ExcO X.K X.mg nm C) (hg : Gl X nm := by rfl) (hdb : (nm == ("__debug__" : Str)) = false := by decide) : PMk X (.Call (.Name nm p) [] [] pos) (fun _ H Q => Q (.ref C) none H) := by
  intro pins s σ H Q I h
  refine wpAny_Call_Name_kw (ld_glob I hg T.gC ?_ hdb)
  refine PySem.W.callWith_K0 I.kIn T.kp ?_
  show wpAny _ _ (call (.ref C) []) _ _ _
  obtain ⟨bm, N, nm, qn, bs, hdct, sn, sub, ab, col, dd, k0, k1, k2, k3, k5, mN, hC, hN, hni, T'⟩ := exc_obj I.kIn T.ex
  refine wpAny_call_exc_subT PySem.F.excBase_Exception T' hC hN hni (fun h' e hm => ?_) (by show 0 ≤ sizeLine; exact Nat.zero_le _)
  exact mk_of I hm (raises_own T.sub T.ty) h (I.hok.gone hm.new)
def sRaise0 (nm : Str) : MS := fun s k => .ex nm [] s k
theorem us_raise0 (hc : X.calm = true) (T : ExcO X.K X.mg nm C) (tk : Takes X W) (hg : Gl X nm := by rfl) (hdb : (nm == ("__debug__" : Str)) = false := by decide) :
    US X W (fun _ σ H => W (.ref C) none σ H) (sRaise0 nm) (.Raise (some (.Call (.Name nm p) [] [] pos)) none pos2) := by
  refine ⟨ps_raise hc tk (pmk_own0 T hg hdb), fun ad H0 F0 k0 σ H F s k E rel po => ?_⟩
  exact po _ _ σ _ _ rel (Same.refl _) ⟨C, clOf_of T.gC, rfl, .inl ⟨rfl, rfl⟩⟩
end
/-! ### a property; len(o), str(o) of an own class -/
end G
namespace G
open PySem PySem.Spec PyProof.Rows L2
/-! ### tuple * int, any int -/
/-! ### is, is not: a bool, None -/
/-! ### what callers know of a property's def, of a special method's; recursion -/
end G
namespace G
open PySem PySem.Spec PyProof.Rows L2
/-! ### == by an own __eq__ with an instance of another own class beside it -/
end G
/-! the head's facts: defs behind properties and classmethods, exceptions without an __init__ -/
namespace HY
open PySem PySem.Spec PyProof.Rows L2 G HX
section
variable {P : Program} {fa : List He.Fa} {fn : List He.DefD} {fx : List Fx} {xs : List XcD} {fw : List He5.DefA} {K : PySem.W.Frag}
theorem SaysY.y (c : SaysY P fa fn fx xs fw K) : SaysX P fa fn fx xs K := congrArg (fun z : AlY => z.1) c
theorem SaysY.w (c : SaysY P fa fn fx xs fw K) (i : Nat) {d : He5.DefA} (h : fw[i]? = some d := by rfl) : ∃ fd, FunD K d.name d.qual d.params d.body d.scope (d.dvs K) (d.kws K) (d.at_ K) fd := by
  have c2 : (fw.all fun d => d.ok K) = true := congrArg (fun z : AlY => z.2.1) c
  have e : fw.map (fun d => He5.fnA K (d.at_ K)) = fw.map He5.DefA.val := congrArg (fun z : AlY => z.2.2) c
  have e2 : (fw.map fun d => He5.fnA K (d.at_ K))[i]? = (fw.map He5.DefA.val)[i]? := by rw [e]
  rw [List.getElem?_map, List.getElem?_map, h] at e2
  exact He5.DefA.funD (Option.some.inj e2) (List.all_eq_true.mp c2 d (List.mem_of_getElem? h))
end
theorem exco_ok {nm : Str} {K : PySem.W.Frag} {h : Heap} {mg : Str → Option Value} (X : K.In h) (G : h.Ns mainGlobals mg) (c : excoB nm K = true) : ExcO K mg nm (He.ga K nm) := by
  unfold excoB at c
  simp only [Bool.and_eq_true, eqO, eqB, decide_eq_true_eq] at c
  obtain ⟨⟨⟨⟨c1, c2⟩, c3⟩, c4⟩, c5⟩ := c
  exact ⟨PySem.W.mg_of X G c1, c2, c3, c4, c5⟩
end HY
/-! own exceptions of any number of parameters, made by position or by name -/
namespace XN
open PySem PySem.W PySem.Calls PyProof.Rows PySem.HandSPX XI
/-! ### a store into an exception that has its dict -/
section
open Builtin Builtin.ObjectAttr
variable {prog : Program} {w : World} {A : Around} {E : Value → Shared → Prop} {R : Result → Shared → Prop} {hp : Heap} {g : Array GenState} {d : Drawn} {t : Nat} {os : OsState}
theorem osa2 {K : W.Frag} {name : Str} {tk : Tok} {v : Value} {x C dx : Addr} {fv : Array Value} {cd : ClassData} {bm : List Value} {m0 : Str → Option Value} {nl : List Str}
    (X : K.In hp) (hx : hp.get? x = some { cls := .ref C, dict := some dx, data := .fields fv }) (hns : hp.Ns1 dx m0) (hw : Within m0 nl) (hz : nl.length ≤ 1000) (hcd : W.clsIn K C = some cd) (hm : cd.mro = .ref C :: bm) (hbm : excTail exTl bm = true) (hh : cd.hasDict = true) (ha : W.findIn K (.ref C) name = some none)
    (hq : ∀ h' tk', (∀ b o, b ≠ dx → hp.get? b = some o → h'.get? b = some o) → h'.Ns1 dx (fun y => if y = name then some v else m0 y) → R (.ok (.ret .none)) ⟨h', g, d, tk', os⟩) :
    codeAny (model prog w) A (.call (.builtin "object.__setattr__") ⟨[.ref x, .str name tk, v], []⟩) R ⟨hp, g, d, t, os⟩ := by
  obtain ⟨oD, esD, epD, hoD, hdD, _⟩ := hns.count hw
  have I : W.InstAt hp x { cls := .ref C, dict := some dx, data := .fields fv } C (some oD) := ⟨hx, rfl, rfl, hoD⟩
  have SF := F.store_object
  have ne : cd.mro.isEmpty = false := by rw [hm]; rfl
  have hob : cd.mro.contains (.type "object") = true := by rw [hm, List.contains_cons, excTail_contains "object" _ hbm, show exTl.contains (.type "object") = true by decide +kernel, Bool.or_true]
  have sub : W.Looks (model prog w) hp (isInstance (.ref x) (.type "object")) true := I.type.andThen (W.looks_mroIn X (by unfold W.mroIn; rw [hcd, Option.bind_some, if_neg (by rw [ne]; decide), hob]))
  refine codeAny_call_builtin SF.slot.plain SF.entry (@W.check_slot (model prog w) _ _ ⟨hp, g, d, t, os⟩ "object.__setattr__" "object" "__setattr__" (.ref x) [.str name tk, v] [] _ SF.kind SF.split sub (SF.args (.ref x) (.str name tk) v) ?_)
  have hmr : W.Looks (model prog w) hp (mroOf (.ref C)) cd.mro := (W.looks_clsIn X hcd).andThen .now
  have L3 : W.Looks (model prog w) hp (storeTaker? none) none := .now
  have hcls : W.Looks (model prog w) hp (classData C) cd := W.looks_clsIn X hcd
  rw [W.osa_eq, refuse_eq]
  refine wpAny_bind (wpAny_bind (I.type.at (wpAny_bind (hmr.at ?_))))
  rw [hm, refuseLoop_ref, excTail_pass _ (F.store_Exception.passes _) _ hbm]
  refine wpAny_pure (wpAny_bind (I.type.at (wpAny_bind ((W.looks_findIn X ha).at (wpAny_bind (L3.at ?_))))))
  show wpAny _ _ (storeInOwnDict (.ref x) (.ref C) (.str name tk) name v false) _ _ _
  obtain ⟨nm, bs, mro, ns, qn, hd, sn, sb, ab, col, del⟩ := cd
  dsimp only at hh
  subst hh
  unfold storeInOwnDict ownDictForStores
  repeat (first | with_reducible refine PySem.OEX.store_in_old hns hw hz ?_ | with_reducible refine wpAny_loadPart_at hx ?_ | with_reducible refine hcls.at ?_ | wp_step)
  intro h' tk' hn' hs
  exact hq h' tk' (fun b o hb ho => (hs.2 b hb).trans ho) hn'
end
/-! ### making with keywords -/
section
variable {prog : Program} {w : World} {A : Around} {E : Value → Shared → Prop} {R : Result → Shared → Prop} {h : Heap} {g : Array GenState} {d : Drawn} {t : Nat} {os : OsState}
variable {nm q : Str} {C N : Addr} {bs bm bmB : List Value} {hdct : Bool} {sn : List Str} {sub : List Value} {ab : Bool} {col : Option Bool} {dd : Option Addr} {k0 k1 k2 k3 k5 : Option Value} {B newId initId : String} {kw : List (Str × Value)}
theorem check_newK {M : Model} (F : ExcBaseFacts B newId initId bmB) (hT : ∀ X : String, bm.contains (.type X) = bmB.contains (.type X)) {rest : List Value} {Q : Unit → Shared → Prop}
    (hC : h.get? C = some (excClassObj nm q C N bs bm hdct sn sub ab col dd k0 k1 k2 k3 k5 newId)) (hq : Q () ⟨h, g, d, t, os⟩) : wpAny M A (checkBuiltinCall newId ⟨.ref C :: rest, kw⟩) Q E ⟨h, g, d, t, os⟩ := by
  have hcont : (Value.ref C :: bm).contains (.type B) = true := by rw [List.contains_cons, hT, F.hasB, Bool.or_true]
  have hstar := F.noStar
  simp only [checkBuiltinCall, F.newKind, F.newSplit, F.newRow]
  repeat (first | refine wpAny_loadPart_at hC ?_ | (refine wpAny_isSubtype_exc hC ?_; rw [hcont]) | refine wpAny_staticBase_exc hC ?_ | refine wpAny_madeBy_exc hC ?_ | simp only [bne_self_eq_false, Bool.false_eq_true, if_false] | wp_step)
  exact hq
theorem newK (F : ExcBaseFacts B newId initId bmB) (hT : ∀ X : String, bm.contains (.type X) = bmB.contains (.type X)) {rest : List Value}
    (hC : h.get? C = some (excClassObj nm q C N bs bm hdct sn sub ab col dd k0 k1 k2 k3 k5 newId))
    (hq : R (.ok (.ret (.ref (h.objs.size + 1)))) ⟨(h.push (W.kdv_tup rest)).push (excO C h.objs.size), g, d, t, os⟩) (hrest : rest.length ≤ sizeLine) :
    codeAny (model prog w) A (.builtin newId ⟨.ref C :: rest, kw⟩) R ⟨h, g, d, t, os⟩ := by
  have hends := F.ends
  have hcB : (Value.ref C :: bm).contains (.type B) = true := by rw [List.contains_cons, hT, F.hasB, Bool.or_true]
  have hcA : (Value.ref C :: bm).contains (.type "AttributeError") = false := by rw [List.contains_cons, hT, F.noAttr]; rfl
  have hcN : (Value.ref C :: bm).contains (.type "NameError") = false := by rw [List.contains_cons, hT, F.noName]; rfl
  refine codeAny_builtinAt F.entry ?_
  unfold Builtin.«BaseException.__new__»
  refine PySem.wpAt_bind ?_
  show PySem.wpAt _ _ _ (stack >>= _) _ _ _
  refine PySem.wpAt_bind (PySem.wpAt_stack fun p below => PySem.wpAt_of_wpAny ?_)
  wp_walk
  refine PySem.wpAt_of_wpAny ?_
  rw [F.owner]
  repeat (first | with_reducible refine wpAny_madeHere_exc F.canon hC ?_ | with_reducible refine wpAny_loadPart_at hC ?_ | (with_reducible refine wpAny_isSubtype_exc hC ?_; first | rw [hcB] | rw [hcA] | rw [hcN]) | wp_step)
  show R _ _
  rw [Heap.size_push]
  exact hq
theorem type_callK (F : ExcBaseFacts B newId initId bmB) (hT : ∀ X : String, bm.contains (.type X) = bmB.contains (.type X)) {rest : List Value} {fI : Addr} {Q : Fin → Shared → Prop}
    (hC : h.get? C = some (excClassObj nm q C N bs bm hdct sn sub ab col dd k0 k1 k2 k3 k5 newId))
    (hi : W.Looks (model prog w) h (typeLookup (.ref C) "__init__") (some (.ref fI))) (hb : ∀ self, W.Looks (model prog w) h (bindSpecial (.ref fI) self) (.ref fI, [self])) (hrest : rest.length ≤ sizeLine)
    (hq : codeAny (model prog w) A (.call (.ref fI) ⟨.ref (h.objs.size + 1) :: rest, kw⟩)
      (fun r s' => match r with | .ok (.ret v) => v = .none ∧ Q (.done (.ret (.ref (h.objs.size + 1)))) s' | .ok _ => False | .error e => E e s')
      ⟨(h.push (W.kdv_tup rest)).push (excO C h.objs.size), g, d, t, os⟩) :
    wpAny (model prog w) A (Builtin.«type.__call__» ⟨.ref C :: rest, kw⟩) Q E ⟨h, g, d, t, os⟩ := by
  repeat (first | with_reducible refine wpAny_loadPart_at hC ?_ | with_reducible refine wpAny_madeBy_exc hC ?_ | wp_step)
  refine codeAny_call_builtin_code (Code.quiet_builtin _ F.quiet) (check_newK F hT hC ?_)
  refine newK F hT hC ?_ hrest
  show wpAny _ _ _ _ _ _
  have k : ∀ b o, h.get? b = some o → ((h.push (W.kdv_tup rest)).push (excO C h.objs.size)).get? b = some o := fun b o e => Heap.get?_push_of_some _ (Heap.get?_push_of_some _ e)
  have hC₁ := k _ _ hC
  have hget : ((h.push (W.kdv_tup rest)).push (excO C h.objs.size)).get? (h.objs.size + 1) = some (excO C h.objs.size) := by heap_get
  have hcC : (Value.ref C :: bm).contains (.ref C) = true := by simp
  have i1 := hi.keeps k
  have b1 := (hb (.ref (h.objs.size + 1))).keeps k
  unfold isInstance
  repeat (first | with_reducible refine wpAny_loadPart_at hget ?_ | (with_reducible refine wpAny_isSubtype_exc hC₁ ?_; rw [hcC]) | wp_step)
  show wpAny _ _ (typeLookup (.ref C) _) _ _ _
  refine i1.at ?_
  refine wpAny_holding (wpAny_bind (b1.at ?_))
  refine wpAny_bind (wpAny_call (codeAny_mono hq fun r s' z => ?_))
  rcases r with e | (v | _ | _ | _) <;> first | exact z | exact z.elim | skip
  obtain ⟨rfl, z⟩ := z
  first
    | exact wpAny_pure (wpAny_pure z)
    | (wp_walk; exact z)
theorem callK (F : ExcBaseFacts B newId initId bmB) (hT : ∀ X : String, bm.contains (.type X) = bmB.contains (.type X)) {rest : List Value} {fI : Addr}
    (hC : h.get? C = some (excClassObj nm q C N bs bm hdct sn sub ab col dd k0 k1 k2 k3 k5 newId))
    (hi : W.Looks (model prog w) h (typeLookup (.ref C) "__init__") (some (.ref fI))) (hb : ∀ self, W.Looks (model prog w) h (bindSpecial (.ref fI) self) (.ref fI, [self])) (hrest : rest.length ≤ sizeLine)
    (hq : codeAny (model prog w) (A.under (.builtin "type.__call__" ⟨.ref C :: rest, kw⟩)) (.call (.ref fI) ⟨.ref (h.objs.size + 1) :: rest, kw⟩) (W.InitBack (h.objs.size + 1) R)
      ⟨(h.push (W.kdv_tup rest)).push (excO C h.objs.size), g, d, t, os⟩) :
    codeAny (model prog w) A (.call (.ref C) ⟨rest, kw⟩) R ⟨h, g, d, t, os⟩ := by
  have f1 := tc_lookup
  have f2 := tc_bind (.ref C)
  have hTy : (⟨h, g, d, t, os⟩ : Shared).TypeIs (.ref C) "type" := ⟨_, hC, rfl⟩
  refine codeAny_of_tree ?_
  show wpAny _ _ (callAny (.ref C) _) _ _ _
  repeat (any_goals (first | assumption | with_reducible refine wpAny_loadPart_at hC ?_ | wp_step))
  refine ⟨rfl, ?_⟩
  refine codeAny_call_builtin_at (Code.quiet_builtin _ (by decide +kernel)) entry_typeCall (wpAny_check_type_call_sub hC (type_callK F hT hC hi hb hrest ?_))
  refine codeAny_mono hq fun r s' z => ?_
  rcases r with e | (v | _ | _ | _) <;> exact z
end
end XN
namespace XN
open PySem PySem.W PySem.Calls PyProof.Rows PySem.HandSPX XI
abbrev fdN (qual : Str) (a : Pos) (q : List Pos) (ps : List PX) (cl : Addr) (dV kV doc pm : Value) (an : Option Addr) (cdv ct : Value) : FuncData :=
  { name := "__init__", qualname := qual, params := nA a ps, body := .stmts (nB q ps), scope := nS ps, globals := mainGlobals, closure := [("__class__", cl)], defaults := dV, kwdefaults := kV, doc, pyModule := pm, annotations := an, code := cdv, closureTuple := ct, builtins := builtinsNs }
abbrev enN (qual : Str) (a : Pos) (q : List Pos) (ps : List PX) (cl : Addr) (dV kV doc pm : Value) (an : Option Addr) (cdv ct : Value) (L f : Addr) : Env := callEnv (fdN qual a q ps cl dV kV doc pm an cdv ct) L f
/-- the call super().__init__(..), as it is evaluated -/
def EvN (qual : Str) (a : Pos) (q : List Pos) (ps : List PX) : Prop :=
  ∀ (cl : Addr) (dV kV doc pm : Value) (an : Option Addr) (cdv ct : Value) (L f : Addr), ∃ pl : Sem Bool,
    eval (sup q ps) (enN qual a q ps cl dV kV doc pm an cdv ct L f) = (do
      let ov ← attributeBase (.Call (.Name "super" (q.getD 0 ⟨0, 0, 0, 0⟩)) [] [] (q.getD 1 ⟨0, 0, 0, 0⟩)) "__init__" (enN qual a q ps cl dV kV doc pm an cdv ct L f) (eval (.Call (.Name "super" (q.getD 0 ⟨0, 0, 0, 0⟩)) [] [] (q.getD 1 ⟨0, 0, 0, 0⟩)) (enN qual a q ps cl dV kV doc pm an cdv ct L f))
      standAt (q.getD 2 ⟨0, 0, 0, 0⟩ : Pos).atName
      let (fv, first) ← holding [ov] (getMethod ov "__init__" pl)
      callWith (q.getD 3 ⟨0, 0, 0, 0⟩) fv first (backTo (q.getD 3 ⟨0, 0, 0, 0⟩) (starEach (ps.map fun x => .Name x.p x.c) (enN qual a q ps cl dV kV doc pm an cdv ct L f))) [])
/-- the arguments are bound -/
def BiN (qual : Str) (a : Pos) (q : List Pos) (ps : List PX) (us : List Value) (kws : List (Str × Value)) (vs : List Value) : Prop :=
  ∀ (cl : Addr) (doc pm : Value) (an : Option Addr) (cdv ct u : Value), bindArgs (fdN qual a q ps cl .none .none doc pm an cdv ct) ⟨u :: us, kws⟩ = pure ((PySem.Str.ofString "self", u) :: (ps.map (·.p)).zip vs)
/-- what the written part says of such a class at C, and of its __init__, at fI -/
structure ExcN (P : Program) (K : Frag) (mg : Str → Option Value) (nm qual : Str) (a : Pos) (q : List Pos) (ps : List PX) (C fI : Addr) : Prop where
  gC : mg nm = some (.ref C)
  mS : mg "super" = none
  np : ∀ x ∈ ps, (("self" : Str) == x.p) = false ∧ (("__class__" : Str) == x.p) = false ∧ (("super" : Str) == x.p) = false ∧ (x.p == ("__debug__" : Str)) = false
  nd : (ps.map (·.p)).Nodup
  ei : excInitIn K C exTl "Exception.__new__" = true
  eo : excOver K C exTl = true
  sa : findIn K (.ref C) "__setattr__" = some (some (.builtin "object.__setattr__"))
  noN : ∀ x ∈ ps, findIn K (.ref C) x.p = some none
  iC : findIn K (.ref C) "__init__" = some (some (.ref fI))
  tC : typeIn K (.ref fI) = some (.type "function")
  kC : keepIn K (.ref C) = true
  exC : subIn K (.ref C) (.type "BaseException") = some true
  exS : subIn K (.ref C) (.ref C) = some true
  exE : subIn K (.ref C) (.type "Exception") = some true
  tyC : typeIn K (.ref C) = some (.type "type")
  hdC : hasDictIn K C = true
  thp : nsIn K cStatics "thirdparty.any" = some none
  sup : ks_superIn K C C "__init__" = some (some (.builtin "Exception.__init__"))
  tops : (P.main.scope.names.lookup ("super" : Str)).isSome = false
  fn : ∃ (oc : Value) (od : Option Addr) (doc pm : Value) (an : Option Addr) (cdv ct : Value) (osl : Array (Option Value)) (cl cc : Addr) (ocl occ : Obj) (vs : Array Value) (tf : Tok) (file : Str),
    K.lookup fI = some ⟨oc, od, .func (fdN qual a q ps cl .none .none doc pm an cdv ct), osl⟩ ∧ codeIn K cdv qual = true ∧ K.lookup cl = some ocl ∧ ocl.data = .cell (some (.ref C)) ∧
      cdv = .ref cc ∧ K.lookup cc = some occ ∧ occ.data = .fields vs ∧ vs[2]? = some (.str file tf) ∧ ((P.main.file : Str) == file) = true
/-! ### names -/
theorem look_loc : ∀ {ps : List PX} {r : List (Str × NameKind)} {p : Str}, p ∈ ps.map (·.p) → ((ps.map fun x => (x.p, NameKind.local)) ++ r).lookup p = some .local
  | [], _, _, h => absurd h List.not_mem_nil
  | x :: ps, r, p, h => by
    show List.lookup p ((x.p, NameKind.local) :: ((ps.map fun x => (x.p, NameKind.local)) ++ r)) = _
    rw [List.lookup_cons]
    by_cases e : p = x.p
    · rw [e, beq_self_eq_true]
    · rw [show (p == x.p) = false by simpa using e]
      exact look_loc (by
        rcases List.mem_cons.mp h with h | h
        · exact absurd h e
        · exact h)
theorem look_beyond : ∀ {ps : List PX} {r : List (Str × NameKind)} {p : Str}, (∀ x ∈ ps, (p == x.p) = false) → ((ps.map fun x => (x.p, NameKind.local)) ++ r).lookup p = r.lookup p
  | [], _, _, _ => rfl
  | x :: ps, r, p, h => by
    show List.lookup p ((x.p, NameKind.local) :: ((ps.map fun x => (x.p, NameKind.local)) ++ r)) = _
    rw [List.lookup_cons, h x (List.mem_cons_self ..)]
    exact look_beyond fun y hy => h y (List.mem_cons_of_mem _ hy)
section
variable {qual p : Str} {a : Pos} {q : List Pos} {ps : List PX} {cl : Addr} {dV kV doc pm : Value} {an : Option Addr} {cdv ct : Value} {L f : Addr}
theorem n_p (h : p ∈ ps.map (·.p)) : (enN qual a q ps cl dV kV doc pm an cdv ct L f).kindOf p = some .local := by
  show (nS ps).names.lookup p = _
  unfold nS
  dsimp only
  rw [List.lookup_cons]
  split
  · rfl
  · exact look_loc h
theorem n_cls (h : ∀ x ∈ ps, (("__class__" : Str) == x.p) = false) : (enN qual a q ps cl dV kV doc pm an cdv ct L f).kindOf "__class__" = some .free := by
  show (nS ps).names.lookup (PySem.Str.ofString "__class__") = _
  unfold nS
  dsimp only
  rw [List.lookup_cons, show ((PySem.Str.ofString "__class__") == (PySem.Str.ofString "self")) = false by decide]
  dsimp only
  rw [look_beyond h]
  rfl
theorem n_sup (h : ∀ x ∈ ps, (("super" : Str) == x.p) = false) : (enN qual a q ps cl dV kV doc pm an cdv ct L f).kindOf "super" = some .globalImplicit := by
  show (nS ps).names.lookup (PySem.Str.ofString "super") = _
  unfold nS
  dsimp only
  rw [List.lookup_cons, show ((PySem.Str.ofString "super") == (PySem.Str.ofString "self")) = false by decide]
  dsimp only
  rw [look_beyond h, List.lookup_cons, show ((PySem.Str.ofString "super") == (PySem.Str.ofString "__class__")) = false by decide]
  rfl
end
theorem look_zip : ∀ {ns : List Str} {vs : List Value} {p : Str} {v : Value} {i : Nat}, ns.Nodup → ns[i]? = some p → vs[i]? = some v → (ns.zip vs).reverse.lookup p = some v
  | [], _, _, _, _, _, h, _ => by simp at h
  | n :: ns, [], _, _, _, _, _, h => by simp at h
  | n :: ns, w :: vs, p, v, 0, nd, h1, h2 => by
    simp at h1 h2
    subst h1 h2
    have hn : n ∉ ns := (List.nodup_cons.mp nd).1
    rw [List.zip_cons_cons, List.reverse_cons]
    have : ∀ (l : List (Str × Value)), n ∉ l.map (·.1) → (l ++ [(n, w)]).lookup n = some w := fun l => by
      induction l with
      | nil => intro _; simp [List.lookup_cons]
      | cons x l ih =>
        intro h
        rw [List.cons_append, List.lookup_cons, show (n == x.1) = false by simpa using fun e => h (by rw [e]; exact List.mem_cons_self ..)]
        exact ih fun z => h (List.mem_cons_of_mem _ z)
    refine this _ fun z => hn ?_
    rw [List.map_reverse, List.mem_reverse] at z
    obtain ⟨y, hy, e⟩ := List.mem_map.mp z
    rw [← e]
    exact (List.of_mem_zip (show (y.1, y.2) ∈ ns.zip vs from hy)).1
  | n :: ns, w :: vs, p, v, i + 1, nd, h1, h2 => by
    rw [List.zip_cons_cons, List.reverse_cons]
    have ih := look_zip (List.nodup_cons.mp nd).2 (i := i) (by simpa using h1) (by simpa using h2)
    have : ∀ (l : List (Str × Value)), l.lookup p = some v → (l ++ [(n, w)]).lookup p = some v := fun l => by
      induction l with
      | nil => intro h; cases h
      | cons x l ih =>
        intro h
        rw [List.cons_append]
        rw [List.lookup_cons] at h ⊢
        split
        · rename_i e; rw [e] at h; exact h
        · rename_i e; rw [e] at h; exact ih h
    exact this _ ih
/-- with self behind them all -/
theorem look_self {l : List (Str × Value)} {p : Str} {u v : Value} (h : l.lookup p = some v) : (l ++ [(PySem.Str.ofString "self", u)]).lookup p = some v := by
  induction l with
  | nil => cases h
  | cons x l ih =>
    rw [List.cons_append]
    rw [List.lookup_cons] at h ⊢
    split
    · rename_i e; rw [e] at h; exact h
    · rename_i e; rw [e] at h; exact ih h
theorem look_self' {l : List (Str × Value)} {u : Value} (h : ∀ x ∈ l, (("self" : Str) == x.1) = false) : (l ++ [(PySem.Str.ofString "self", u)]).lookup (PySem.Str.ofString "self") = some u := by
  induction l with
  | nil => simp [List.lookup_cons]
  | cons x l ih =>
    rw [List.cons_append, List.lookup_cons, show (PySem.Str.ofString "self" == x.1) = false from h x (List.mem_cons_self ..)]
    exact ih fun y hy => h y (List.mem_cons_of_mem _ hy)
/-- what __init__ leaves of a fresh exception at x; fs: its attributes, the last one first -/
structure InitEndN (h h' : Heap) (x C dx t1 : Addr) (fs : List (Str × Value)) : Prop where
  keep : ∀ b o, b ≠ x → h.get? b = some o → h'.get? b = some o
  obj : h'.get? x = some { cls := .ref C, dict := some dx, data := .fields #[.ref t1, .none, .none, .none, .bool false, .none] }
  dbig : h.objs.size ≤ dx
  dne : dx ≠ x
  ns : h'.Ns1 dx (fun y => fs.lookup y)
/-- a made exception -/
structure MadeN (h h' : Heap) (e C d : Addr) (fs : List (Str × Value)) : Prop where
  keep : ∀ b o, h.get? b = some o → h'.get? b = some o
  new : h.objs.size ≤ e
  obj : ∃ oe vs, h'.get? e = some oe ∧ oe.cls = .ref C ∧ oe.dict = some d ∧ oe.data = .fields vs ∧ vs[1]? = some .none
  dbig : h.objs.size ≤ d
  dne : d ≠ e
  ns : h'.Ns1 d (fun y => fs.lookup y)
theorem ns_cons {h : Heap} {d : Addr} {fs : List (Str × Value)} {p : Str} {v : Value} (hn : h.Ns1 d (fun y => if y = p then some v else fs.lookup y)) : h.Ns1 d (fun y => ((p, v) :: fs).lookup y) := by
  have e : (fun y => if y = p then some v else fs.lookup y) = fun y => ((p, v) :: fs).lookup y := funext fun y => by
    rw [List.lookup_cons]
    by_cases q : y = p
    · rw [if_pos q, q, beq_self_eq_true]
    · rw [if_neg q, show (y == p) = false by simpa using q]
  rw [← e]; exact hn
theorem within_lookup (fs : List (Str × Value)) : Within (fun y => fs.lookup y) (fs.map (·.1)) := fun y h => by
  induction fs with
  | nil => exact absurd rfl h
  | cons x fs ih =>
    have h2 : List.lookup y (x :: fs) ≠ none := h
    rw [List.lookup_cons] at h2
    by_cases q : y = x.1
    · rw [q]; exact List.mem_cons_self ..
    · rw [show (y == x.1) = false by simpa using q] at h2
      exact List.mem_cons_of_mem _ (ih h2)
end XN
namespace XN
open PySem PySem.W PySem.Calls PyProof.Rows PySem.HandSPX XI
theorem star_name (p : Str) (c : Pos) (es : List Expr) (env : Env) : starEach (Expr.Name p c :: es) env = (false, eval (Expr.Name p c) env) :: starEach es env := rfl
theorem back_cons (pos : Pos) (t : Sem Value) (r : List (Bool × Sem Value)) : backTo pos ((false, t) :: r) = (false, t) :: backTo pos r := rfl
theorem spl_names {M : Model} {A : Around} {E : Value → Shared → Prop} {s : Shared} {env : Env} {pos : Pos} (xs : List PX) : ∀ (us : List Value) (Q : List Value → Shared → Prop), us.length = xs.length →
    (∀ (i : Nat) (x : PX) (u : Value), xs[i]? = some x → us[i]? = some u → ∀ (Q : Value → Shared → Prop), Q u s → wpAny M A (eval (.Name x.p x.c) env) Q E s) → Q us s →
    wpAny M A (spliced (backTo pos (starEach (xs.map fun x => Expr.Name x.p x.c) env))) Q E s := by
  induction xs with
  | nil =>
    intro us Q hl _ fin
    cases us with
    | nil => exact spliced_nil fin
    | cons _ _ => simp at hl
  | cons x xs ih =>
    intro us Q hl hx fin
    cases us with
    | nil => simp at hl
    | cons u us =>
      rw [List.map_cons, star_name, back_cons]
      refine spliced_cons (hx 0 x u rfl rfl _ ?_)
      exact ih us _ (by simpa using hl) (fun i y v h1 h2 => hx (i + 1) y v (by simpa using h1) (by simpa using h2)) fin
section
variable {prog : Program} {w : World} {K : Frag} {nm qual : Str} {C fI : Addr} {a : Pos} {q : List Pos} {ps : List PX}
/-- the stores self.p = p -/
theorem stores {A : Around} {c : Code} {Q : Flow → Shared → Prop} {E : Value → Shared → Prop} {env : Env} {x dx L : Addr} {fv : Array Value} {cd : ClassData} {bm : List Value} {g : Array GenState} {d : Drawn} {os : OsState} {mL : Str → Option Value}
    (hx : ∃ t1, fv = #[.ref t1, .none, .none, .none, .bool false, .none]) (hcd : clsIn K C = some cd) (hm : cd.mro = .ref C :: bm) (hbm : excTail exTl bm = true) (hh : cd.hasDict = true) (sa : findIn K (.ref C) "__setattr__" = some (some (.builtin "object.__setattr__")))
    (hdK : K.lookup dx = none) (hxd : dx ≠ x) (hLd : L ≠ dx)
    (hself : ∀ (h' : Heap) (t : Nat) (Q : Value → Shared → Prop) (E' : Value → Shared → Prop) (A' : Around), h'.Ns L mL → Q (.ref x) ⟨h', g, d, t, os⟩ → wpAny (model prog w) A' (loadName env "self") Q E' ⟨h', g, d, t, os⟩) :
    ∀ (xs : List PX) (us : List Value) (fs : List (Str × Value)) (hp : Heap) (t : Nat), us.length = xs.length → fs.length + xs.length ≤ 900 →
    (∀ (i : Nat) (y : PX) (u : Value), xs[i]? = some y → us[i]? = some u → ∀ (pos : Pos) (h' : Heap) (t : Nat) (Q : Value → Shared → Prop) (E' : Value → Shared → Prop) (A' : Around), h'.Ns L mL → Q u ⟨h', g, d, t, os⟩ → wpAny (model prog w) A' (eval (.Name y.p pos) env) Q E' ⟨h', g, d, t, os⟩) →
    (∀ y ∈ xs, findIn K (.ref C) y.p = some none) → K.In hp → hp.get? x = some { cls := .ref C, dict := some dx, data := .fields fv } → hp.Ns1 dx (fun y => fs.lookup y) → hp.Ns L mL →
    (∀ h' tk, (∀ b o, b ≠ dx → hp.get? b = some o → h'.get? b = some o) → h'.Ns1 dx (fun y => (((xs.map (·.p)).zip us).reverse ++ fs).lookup y) → Q .next ⟨h', g, d, tk, os⟩) →
    PySem.wpAt (model prog w) A c (execs (xs.map sto) env) Q E ⟨hp, g, d, t, os⟩ := by
  intro xs
  induction xs with
  | nil =>
    intro us fs hp t _ _ _ _ _ _ hns _ fin
    refine PySem.wpAt_of_wpAny (wpAny_execs_nil ?_)
    exact fin hp t (fun _ _ _ e => e) (by simpa using hns)
  | cons y xs ih =>
    intro us fs hp t hl h9 hv hno X ho hns hn fin
    cases us with
    | nil => simp at hl
    | cons u us =>
      obtain ⟨oD, _, _, hoD, _, _⟩ := hns.count (within_lookup fs)
      show PySem.wpAt _ _ _ (execs (sto y :: xs.map sto) env) _ _ _
      refine ks_wpAt_execs_cons (PySem.wpAt_of_wpAny (plainObj_wpAny_Assign_Attribute ?_))
      refine hv 0 y u rfl rfl _ hp t _ _ _ hn ?_
      refine wpAny_Name (hself hp t _ _ _ hn ?_) (by decide)
      refine set_plain X (ox := { cls := .ref C, dict := some dx, data := .fields fv }) (od := some oD) ⟨ho, rfl, rfl, hoD⟩ sa ?_
      refine osa2 X ho hns (within_lookup fs) (by rw [List.length_map]; omega) hcd hm hbm hh (hno y (List.mem_cons_self ..)) fun h' tk' k hn' => ?_
      refine ih us ((y.p, u) :: fs) h' tk' (by simpa using hl) (by simp only [List.length_cons] at h9 ⊢; omega) (fun i z v h1 h2 => hv (i + 1) z v (by simpa using h1) (by simpa using h2)) (fun z hz => hno z (List.mem_cons_of_mem _ hz)) ?_ (k _ _ (Ne.symm hxd) ho) (ns_cons hn') ?_ fun h2 tk2 k2 hn2 => ?_
      · exact fun b o e => k b o (fun z => by rw [z, hdK] at e; cases e) (X b o e)
      · obtain ⟨o, es, ep, e1, e2, e3⟩ := hn
        exact ⟨o, es, ep, k _ _ hLd e1, e2, e3⟩
      · refine fin h2 tk2 (fun b o hb e => k2 b o hb (k b o hb e)) ?_
        have e : (((y :: xs).map (·.p)).zip (u :: us)).reverse ++ fs = ((xs.map (·.p)).zip us).reverse ++ (y.p, u) :: fs := by
          rw [List.map_cons, List.zip_cons_cons, List.reverse_cons, List.append_assoc]; rfl
        rw [e]; exact hn2
variable {A : Around} {R : Result → Shared → Prop} {s : Shared} {mg : Str → Option Value}
theorem exc_initN {mb : Str → Option Value} (T : ExcN prog K mg nm qual a q ps C fI) (TE : EvN qual a q ps) {x t0 : Addr} {us vs : List Value} {kws : List (Str × Value)} (TB : BiN qual a q ps us kws vs) (hlen : vs.length = ps.length) (hne : ps ≠ []) (h9 : ps.length ≤ 900) (X : K.In s.heap) (hlim : s.heap.NoLimit) (hg : s.heap.Ns mainGlobals mg) (hb : s.heap.Ns builtinsNs mb) (hbb : mb "super" = some (.type "super"))
    (hx : s.heap.get? x = some (excO C t0)) (hnx : K.lookup x = none) (hroom : A.depth < recursionLimit)
    (hq : ∀ h' tk dx t1, InitEndN s.heap h' x C dx t1 ((ps.map (·.p)).zip vs).reverse → R (.ok (.ret .none)) { s with heap := h', toks := tk }) :
    codeAny (model prog w) A (.call (.ref fI) ⟨.ref x :: us, kws⟩) R s := by
  obtain ⟨oc, od, doc, pm, an, cdv, ct, osl, cl, cc, ocl, occ, fvs, tf, file, ho, hcd, hcl, hclv, rfl, hcc, hoc, hvs, hfile⟩ := T.fn
  have np1 : ∀ x ∈ ps, (("self" : Str) == x.p) = false := fun x hx => (T.np x hx).1
  have np2 : ∀ x ∈ ps, (("__class__" : Str) == x.p) = false := fun x hx => (T.np x hx).2.1
  have np3 : ∀ x ∈ ps, (("super" : Str) == x.p) = false := fun x hx => (T.np x hx).2.2.1
  have np4 : ∀ x ∈ ps, (x.p == ("__debug__" : Str)) = false := fun x hx => (T.np x hx).2.2.2
  refine ks_codeAny_call_defAt (fd := fdN qual a q ps cl .none .none doc pm an (.ref cc) ct) (body := nB q ps) (binds := (PySem.Str.ofString "self", .ref x) :: (ps.map (·.p)).zip vs) hroom (X _ _ ho) rfl hlim (codeRec_of X hcd) rfl (BindsTo.of_eq (TB ..)) (fun y hy => ?_) (fun y hy => ?_) (fun h₀ hn k => ?_)
  · have hy' : y ∈ (PySem.Str.ofString "self", NameKind.local) :: ((ps.map fun x => (x.p, NameKind.local)) ++ [(PySem.Str.ofString "__class__", NameKind.free), (PySem.Str.ofString "super", NameKind.globalImplicit)]) := hy
    simp only [List.mem_cons, List.mem_append, List.mem_map, List.not_mem_nil, or_false] at hy'
    rcases hy' with rfl | ⟨z, _, rfl⟩ | rfl | rfl <;> exact fun z => nomatch z
  · rcases List.mem_cons.mp hy with rfl | hy
    · rfl
    · exact n_p (qual := qual) (a := a) (q := q) (cl := cl) (dV := .none) (kV := .none) (doc := doc) (pm := pm) (an := an) (cdv := .ref cc) (ct := ct) (L := 0) (f := 0) (List.of_mem_zip (show (y.1, y.2) ∈ (ps.map (·.p)).zip vs from hy)).1
  · generalize eL : (PySem.Str.ofString "self", Value.ref x) :: (ps.map (·.p)).zip vs = binds at hn
    have mself : binds.reverse.lookup (PySem.Str.ofString "self") = some (.ref x) := by
      rw [← eL, List.reverse_cons]
      refine look_self' fun y hy => ?_
      have hy := (List.of_mem_zip (show (y.1, y.2) ∈ (ps.map (·.p)).zip vs from List.mem_reverse.mp hy)).1
      obtain ⟨z, hz, e⟩ := List.mem_map.mp hy
      rw [← e]; exact np1 z hz
    have mp : ∀ (i : Nat) (y : PX) (u : Value), ps[i]? = some y → vs[i]? = some u → binds.reverse.lookup y.p = some u := fun i y u h1 h2 => by
      rw [← eL, List.reverse_cons]
      exact look_self (look_zip T.nd (i := i) (by rw [List.getElem?_map, h1]; rfl) h2)
    have X₁ : K.In h₀ := X.keeps k
    have hx₁ := k _ _ hx
    have I₁ : InstAt h₀ x (excO C t0) C none := ⟨hx₁, rfl, rfl, trivial⟩
    obtain ⟨nm', N', qn, bs, bm, hdct, sn, sub, ab, col, dd, k0, k1, k2, k3, k5, hC, hT⟩ := excInit_of X₁ T.ei
    obtain ⟨pl, hev⟩ := TE cl .none .none doc pm an (.ref cc) ct s.heap.objs.size fI
    have hsup := T.sup
    cases hc : clsIn K C with
    | none => unfold ks_superIn at hsup; rw [hc] at hsup; cases hsup
    | some cd =>
    unfold ks_superIn at hsup
    rw [hc] at hsup
    have hsup' : alongIn K "__init__" ((cd.mro.dropWhile (· != .ref C)).drop 1) = some (some (.builtin "Exception.__init__")) := hsup
    obtain ⟨bmx, hmx, hbx⟩ : ∃ bmx, cd.mro = .ref C :: bmx ∧ excTail exTl bmx = true := by
      obtain ⟨cd', hc', hov⟩ := any_some T.eo
      rw [hc] at hc'
      cases hc'
      (try dsimp only at hov)
      split at hov
      · rename_i C' bm hm
        rw [Bool.and_eq_true, beq_iff_eq] at hov
        obtain ⟨e1, hov⟩ := hov
        exact ⟨bm, by rw [hm, e1], hov⟩
      · cases hov
    have hhd : cd.hasDict = true := by
      obtain ⟨cd', hc', hd⟩ := any_some T.hdC
      rw [hc] at hc'
      cases hc'
      exact hd
    have hxC : x ≠ C := ks_ne X₁ I₁ hc
    have hself : ∀ (h' : Heap) (g : Array GenState) (d : Drawn) (t : Nat) (os : OsState) (Q : Value → Shared → Prop) (E' : Value → Shared → Prop) (A' : Around), h'.Ns s.heap.objs.size (fun y => binds.reverse.lookup y) → Q (.ref x) ⟨h', g, d, t, os⟩ → wpAny (model prog w) A' (loadName (enN qual a q ps cl .none .none doc pm an (.ref cc) ct s.heap.objs.size fI) "self") Q E' ⟨h', g, d, t, os⟩ :=
      fun h' g d t os Q E' A' hn q => wpAny_loadName_local rfl rfl hn mself q
    have hpv : ∀ (i : Nat) (y : PX) (u : Value), ps[i]? = some y → vs[i]? = some u → ∀ (pos : Pos) (h' : Heap) (g : Array GenState) (d : Drawn) (t : Nat) (os : OsState) (Q : Value → Shared → Prop) (E' : Value → Shared → Prop) (A' : Around), h'.Ns s.heap.objs.size (fun y => binds.reverse.lookup y) → Q u ⟨h', g, d, t, os⟩ → wpAny (model prog w) A' (eval (.Name y.p pos) (enN qual a q ps cl .none .none doc pm an (.ref cc) ct s.heap.objs.size fI)) Q E' ⟨h', g, d, t, os⟩ :=
      fun i y u h1 h2 pos h' g d t os Q E' A' hn q => wpAny_Name (wpAny_loadName_local rfl (n_p (List.mem_map.mpr ⟨y, List.mem_of_getElem? h1, rfl⟩)) hn (mp i y u h1 h2) q) (np4 y (List.mem_of_getElem? h1))
    unfold nB
    refine ks_wpAt_execs_cons (ks_wpAt_Expr_any (ks_wpAt_MethodCall (pl := pl) ?_ hev))
    refine ks_wpAt_super_base (f := fI) (cc := cc) (n_sup np3) (n_cls np2) (by decide) rfl (k _ _ (X _ _ ho)) rfl rfl rfl (X₁ _ _ hcc) hoc hvs hfile T.tops ?_
    obtain ⟨hs, g, d, t, os⟩ := s
    have hg₁ : h₀.Ns mainGlobals mg := hg.keeps k
    have hb₁ : h₀.Ns builtinsNs mb := hb.keeps k
    show wpAny _ _ (loadName (enN qual a q ps cl .none .none doc pm an (.ref cc) ct hs.objs.size fI) "super") _ _ _
    refine ldSup (n_sup np3) hg₁ T.mS hb₁ hbb ⟨rfl, ?_⟩
    refine wpAny_loadName_free rfl (n_cls np2) (c := cl) (v := .ref C) rfl ⟨ocl, X₁ _ _ hcl, hclv⟩ ?_
    refine hself _ _ _ _ _ _ _ _ hn ?_
    refine ks_wpAny_isType_cls hC rfl ⟨rfl, ?_⟩
    have hsubC : Looks (model prog w) h₀ (isSubtype (.ref C) (.ref C)) true := looks_subIn X₁ T.exS
    refine ks_wpAny_call_super hC rfl hx₁ rfl (fun c z => nomatch z) hsubC fun h₂ hso kk => ?_
    have X₂ : K.In h₂ := X₁.keeps kk
    have hx₂ := kk _ _ hx₁
    have I₂ : InstAt h₂ x (excO C t0) C none := ⟨hx₂, rfl, rfl, trivial⟩
    have hI : Looks (model prog w) h₂ (isInstance (.ref x) (.type "Exception")) true := I₂.type.andThen (looks_subIn X₂ T.exE)
    refine kxs_getMethod kxs_Exception hso (looks_opaque X₂ T.thp) (l₀ := cd.mro) (fun A Q E s k q => wpAny_bind ((looks_clsIn X₂ hc) A _ E s k (wpAny_pure q))) rfl X₂ hsup' hI hxC (by decide) ?_
    have k3 : ∀ b o, h₂.get? b = some o → (h₂.push (kxs_mw "Exception.__init__" x)).get? b = some o := fun b o e => Heap.get?_push_of_some _ e
    have hu : (h₂.push (kxs_mw "Exception.__init__" x)).get? h₂.objs.size = some (kxs_mw "Exception.__init__" x) := Heap.get?_push_at rfl rfl
    have hn₂ : h₂.Ns hs.objs.size (fun y => binds.reverse.lookup y) := hn.keeps kk
    have hn₃ := hn₂.keeps k3
    obtain ⟨y0, ys, rfl⟩ : ∃ y ys, ps = y :: ys := by
      cases ps with
      | nil => exact absurd rfl hne
      | cons y ys => exact ⟨y, ys, rfl⟩
    obtain ⟨v0, ws, rfl⟩ : ∃ v ws, vs = v :: ws := by
      cases vs with
      | nil => simp at hlen
      | cons v ws => exact ⟨v, ws, rfl⟩
    have pl0 : ∀ (l : List PX) (env : Env), (backTo (q.getD 3 ⟨0, 0, 0, 0⟩) (starEach (l.map fun x => .Name x.p x.c) env)).any (·.1) = false := fun l env => by
      induction l with
      | nil => rfl
      | cons x l ih => exact ih
    refine kxs_callWith (i := "Exception.__init__") (x := x) (u := h₂.objs.size) (pl0 _ _) (evalArgs_plain ?_)
    refine spl_names (y0 :: ys) (v0 :: ws) _ hlen (fun i y u h1 h2 Q' hQ => hpv i y u h1 h2 _ _ _ _ _ _ _ _ _ hn₃ hQ) ?_
    refine ⟨hu, ?_⟩
    have hx₃ := k3 _ _ hx₂
    have hC₃ := k3 _ _ (kk _ _ hC)
    show wpAny _ _ (call (.ref h₂.objs.size) (v0 :: ws)) _ _ _
    refine init_bw hC₃ hx₃ hu (by rw [sizeLine_eq, hlen]; exact Nat.le_trans h9 (by decide)) fun h₄ t1 k4 hx₄ => ?_
    have hxL : hs.objs.size ≠ x := Nat.ne_of_gt (Heap.lt_size hx)
    have hn₄ : h₄.Ns hs.objs.size (fun y => binds.reverse.lookup y) := by
      obtain ⟨o, es, ep, e1, e2, e3⟩ := hn₃
      exact ⟨o, es, ep, k4 _ _ hxL e1, e2, e3⟩
    have X₄ : K.In h₄ := fun b o e => k4 b o (fun z => by rw [z, hnx] at e; cases e) ((X₂.keeps k3) b o e)
    rw [List.map_cons]
    refine ks_wpAt_execs_cons (PySem.wpAt_of_wpAny (plainObj_wpAny_Assign_Attribute ?_))
    refine hpv 0 y0 v0 rfl rfl _ _ _ _ _ _ _ _ _ hn₄ ?_
    refine wpAny_Name (hself _ _ _ _ _ _ _ _ hn₄ ?_) (by decide)
    refine set_plain X₄ (ox := excO C t1) (od := none) ⟨hx₄, rfl, rfl, trivial⟩ T.sa ?_
    refine osa X₄ hx₄ hc hmx hbx hhd (T.noN y0 (List.mem_cons_self ..)) (fun h₅ tk₅ dx k₅ dn dne hx₅ hn₅ => ?_)
    have dbig : hs.objs.size ≤ dx := Nat.le_trans (Nat.le_of_lt hn₄.lt) dn
    have hLd : hs.objs.size ≠ dx := Nat.ne_of_lt (Nat.lt_of_lt_of_le hn₄.lt dn)
    have hdK : K.lookup dx = none := by
      cases e : K.lookup dx with
      | none => rfl
      | some o => exact absurd (Nat.lt_of_lt_of_le (Heap.lt_size (X _ _ e)) dbig) (Nat.lt_irrefl _)
    have X₅ : K.In h₅ := fun b o e => k₅ b o (fun z => by rw [z, hnx] at e; cases e) (X₄ b o e)
    have hn₅' : h₅.Ns hs.objs.size (fun y => binds.reverse.lookup y) := by
      obtain ⟨o, es, ep, e1, e2, e3⟩ := hn₄
      exact ⟨o, es, ep, k₅ _ _ hxL e1, e2, e3⟩
    have hns₅ : h₅.Ns1 dx (fun y => [(y0.p, v0)].lookup y) := by
      refine ns_cons (fs := []) ?_
      exact hn₅
    refine stores (L := hs.objs.size) (mL := fun y => binds.reverse.lookup y) ⟨t1, rfl⟩ hc hmx hbx hhd T.sa hdK dne hLd (fun h' t Q E' A' => hself h' g d t os Q E' A') ys ws [(y0.p, v0)] h₅ tk₅ (by simpa using hlen) (by simp only [List.length_cons, List.length_nil] at h9 ⊢; omega)
      (fun i y u h1 h2 pos h' t Q E' A' => hpv (i + 1) y u (by simpa using h1) (by simpa using h2) pos h' g d t os Q E' A') (fun y hy => T.noN y (List.mem_cons_of_mem _ hy)) X₅ hx₅ hns₅ hn₅' fun h6 tk6 k6 hn6 => ?_
    refine hq h6 tk6 dx t1 ⟨fun b o hb e => ?_, k6 _ _ (Ne.symm dne) hx₅, dbig, dne, ?_⟩
    · exact k6 b o (Nat.ne_of_lt (Nat.lt_of_lt_of_le (Heap.lt_size e) dbig)) (k₅ b o hb (k4 b o hb (k3 b o (kk b o (k b o e)))))
    · rw [List.map_cons, List.zip_cons_cons, List.reverse_cons]
      exact hn6
end
end XN
namespace XN
open PySem PySem.W PySem.Calls PyProof.Rows PySem.HandSPX XI
section
variable {prog : Program} {w : World} {A : Around} {R : Result → Shared → Prop} {s : Shared} {K : Frag} {mg : Str → Option Value} {nm qual : Str} {C fI : Addr} {a : Pos} {q : List Pos} {ps : List PX}
theorem exc_madeN {mb : Str → Option Value} (T : ExcN prog K mg nm qual a q ps C fI) (TE : EvN qual a q ps) {us vs : List Value} {kws : List (Str × Value)} (TB : BiN qual a q ps us kws vs) (hlen : vs.length = ps.length) (hne : ps ≠ []) (h9 : ps.length ≤ 900) (hus : us.length ≤ sizeLine) (X : K.In s.heap) (hlim : s.heap.NoLimit) (hg : s.heap.Ns mainGlobals mg) (hb : s.heap.Ns builtinsNs mb) (hbb : mb "super" = some (.type "super")) (hroom : A.depth + 1 < recursionLimit)
    (hq : ∀ h' tk e d, MadeN s.heap h' e C d ((ps.map (·.p)).zip vs).reverse → R (.ok (.ret (.ref e))) { s with heap := h', toks := tk }) :
    codeAny (model prog w) A (.call (.ref C) ⟨us, kws⟩) R s := by
  obtain ⟨nm', N', qn, bs, bm, hdct, sn, sub, ab, col, dd, k0, k1, k2, k3, k5, hC, hT⟩ := excInit_of X T.ei
  obtain ⟨hp, g, dr, tk, os⟩ := s
  have k : ∀ b o, hp.get? b = some o → ((hp.push (kdv_tup us)).push (excO C hp.objs.size)).get? b = some o := fun b o e => Heap.get?_push_of_some _ (Heap.get?_push_of_some _ e)
  have hget : ((hp.push (kdv_tup us)).push (excO C hp.objs.size)).get? (hp.objs.size + 1) = some (excO C hp.objs.size) := by heap_get
  have hnx : K.lookup (hp.objs.size + 1) = none := by
    cases e : K.lookup (hp.objs.size + 1) with
    | none => rfl
    | some o =>
      have z : hp.get? (hp.objs.size + 1) = some o := X _ _ e
      exact absurd (Nat.lt_of_succ_lt (Heap.lt_size z)) (Nat.lt_irrefl _)
  refine callK F.excBase_Exception hT hC (looks_findIn X T.iC) (fun self => bind_fn X self T.tC) hus ?_
  refine exc_initN (s := ⟨(hp.push (kdv_tup us)).push (excO C hp.objs.size), g, dr, tk, os⟩) T TE TB hlen hne h9 (X.keeps k) (hlim.keeps k) (hg.keeps k) (hb.keeps k) hbb hget hnx ?_ fun h' tk' dx t1 ⟨k', hx, dn, dne, hns⟩ => ?_
  · show A.depth + 1 < recursionLimit
    exact hroom
  · have old : ∀ b o, hp.get? b = some o → h'.get? b = some o := fun b o e => k' b o (Nat.ne_of_lt (Nat.lt_succ_of_lt (Heap.lt_size e))) (k b o e)
    have z : hp.objs.size + 1 + 1 ≤ dx := by
      first
        | (simpa only [Heap.size_push] using dn)
        | exact dn
        | (have q := dn; rw [Heap.size_push, Heap.size_push] at q; exact q)
    exact ⟨rfl, hq h' tk' (hp.objs.size + 1) dx ⟨old, Nat.le_succ _, ⟨_, _, hx, rfl, rfl, rfl, rfl⟩, Nat.le_trans (Nat.le_trans (Nat.le_succ _) (Nat.le_succ _)) z, dne, hns⟩⟩
end
end XN
namespace G
open PySem PySem.Spec PyProof.Rows L2 XN
/-- two new objects are laid at once -/
theorem inv_laid2 {X : Cx} {pins : List (Addr × Obj)} {σ : L2.St} {H : Hp} {s : Shared} {h' : Heap} {t' : Nat} {d e : Addr} {o1 o2 : HO} (I : Inv X pins σ H s) (k : ∀ b u, s.heap.get? b = some u → h'.get? b = some u) (hd : s.heap.objs.size ≤ d) (he : s.heap.objs.size ≤ e) (ne : d ≠ e)
    (n1 : ObjOk X.prog X.w (upd (upd H d o1) e o2) h' d o1) (n2 : ObjOk X.prog X.w (upd (upd H d o1) e o2) h' e o2) : Inv X pins σ (upd (upd H d o1) e o2) { s with heap := h', toks := t' } := by
  have fd := I.hok.fresh hd
  have fe := I.hok.fresh he
  have old : ∀ c o, H c = some o → upd (upd H d o1) e o2 c = some o := fun c o q => by
    rw [upd_ne (ne_of_none q fe), upd_ne (ne_of_none q fd)]; exact q
  have oldn : ∀ c o, s.heap.get? c = some o → H c = none → upd (upd H d o1) e o2 c = none := fun c o q n => by
    have l := Heap.lt_size q
    rw [upd_ne (Nat.ne_of_lt (Nat.lt_of_lt_of_le l he)), upd_ne (Nat.ne_of_lt (Nat.lt_of_lt_of_le l hd))]; exact n
  refine I.un ⟨fun b o q _ _ _ => k b o q, fun b o q _ _ _ => ⟨o.slots, k b o q⟩, fun b o q n _ => oldn b o q n, fun b o q _ => ⟨o, k b o q⟩, fun b xs q => old b _ q, fun b o u q => old b _ q, fun b ps q => ⟨#[], by rw [Array.append_empty]; exact old b _ q⟩⟩ fun b u q => ?_
  by_cases hbe : b = e
  · subst hbe; rw [upd_same] at q; cases q; exact n2
  · by_cases hbd : b = d
    · subst hbd; rw [upd_ne hbe, upd_same] at q; cases q; exact n1
    · rw [upd_ne hbe, upd_ne hbd] at q
      exact (I.hok b u q).stay (fun c v _ q => k c v q) (fun c q => old c _ q) fun c xs q => old c _ q
theorem relO_zip {f : Str} : ∀ {ns : List Str} {vs : List V} {us : List Value}, Vals vs us → ∀ {r : List (Str × V)} {r' : List (Str × Value)}, RelO (r.lookup f) (r'.lookup f) → RelO (((ns.zip vs).reverse ++ r).lookup f) (((ns.zip us).reverse ++ r').lookup f)
  | [], _, _, _, _, _, h => h
  | _ :: _, [], [], .nil, _, _, h => h
  | n :: ns, v :: vs, u :: us, .cons a b, r, r', h => by
    rw [List.zip_cons_cons, List.zip_cons_cons, List.reverse_cons, List.reverse_cons, List.append_assoc, List.append_assoc]
    refine relO_zip b ?_
    show RelO (((n, v) :: r).lookup f) (((n, u) :: r').lookup f)
    rw [List.lookup_cons, List.lookup_cons]
    split
    · exact a
    · exact h
theorem relO_zip0 {f : Str} {ns : List Str} {vs : List V} {us : List Value} (h : Vals vs us) : RelO (((ns.zip vs).reverse).lookup f) (((ns.zip us).reverse).lookup f) := by
  have := relO_zip (f := f) (ns := ns) h (r := []) (r' := []) (by exact True.intro)
  rwa [List.append_nil, List.append_nil] at this
theorem denF_zip {K : PySem.W.Frag} {cl : Cl} {ad : Ad} {F : Hp} : ∀ {ns : List Str} {vs : List V} {ds : List D}, DenA K cl ad F vs ds → ∀ {r : List (Str × V)} {r' : List (Str × D)}, DenF K cl ad F r r' → DenF K cl ad F ((ns.zip vs).reverse ++ r) ((ns.zip ds).reverse ++ r')
  | [], _, _, _, _, _, h => h
  | _ :: _, [], [], .nil, _, _, h => h
  | n :: ns, v :: vs, d :: ds, .cons a b, r, r', h => by
    rw [List.zip_cons_cons, List.zip_cons_cons, List.reverse_cons, List.reverse_cons, List.append_assoc, List.append_assoc]
    exact denF_zip b (.cons a h)
theorem denF_zip0 {K : PySem.W.Frag} {cl : Cl} {ad : Ad} {F : Hp} {ns : List Str} {vs : List V} {ds : List D} (h : DenA K cl ad F vs ds) : DenF K cl ad F (ns.zip vs).reverse (ns.zip ds).reverse := by
  have := denF_zip (ns := ns) h (r := []) (r' := []) .nil
  rwa [List.append_nil, List.append_nil] at this
/-- an own exception, made: its dict at d, itself at e -/
def QMk (C : Addr) (ns : List Str) (vs : List V) (H1 : Hp) (Q : VK) : Prop := vs.length = ns.length ∧ ∀ e d, H1 e = none → H1 d = none → d ≠ e → Q (.ref e) (upd (upd H1 d (.xd (ns.zip vs).reverse)) e (exH e C (some d)))
def tExcN (C : Addr) (ns : List Str) (ta : TA) : TE := fun σ H Q => ta σ H fun vs H1 => QMk C ns vs H1 Q
def dExcN (nm : Str) (ns : List Str) (ta : ME (List D)) : ME D := eb ta fun ds => fun _ k => if ds.length = ns.length then .ok (.exc nm (ns.zip ds).reverse) k else .no
theorem sn_excN {K : PySem.W.Frag} {cl : Cl} {W : WX} {nm : Str} {C : Addr} {ns : List Str} {re : TA} {te : ME (List D)} (hC : cl nm = some C) (ha : Sn K cl W (RA K cl) re te) : Sn K cl W (RD K cl) (tExcN C ns re) (dExcN nm ns te) := by
  intro ad σ H F s k Q rel p
  refine ha.bind rel p fun vs ds H1 F1 k1 _ r1 x1 d1 p1 => ?_
  by_cases hl : ds.length = ns.length
  · rw [if_pos hl] at p1
    refine ⟨d1.length.trans hl, fun e d he hd ne => ?_⟩
    have n1 := New.one (o := .xd (ns.zip vs).reverse) r1.sub hd
    have he2 : upd H1 d (.xd (ns.zip vs).reverse) e = none := by rw [upd_ne (Ne.symm ne)]; exact he
    have n2 := New.one (o := exH e C (some d)) n1.ok he2
    have n := n1.trans n2
    refine p1.ok r1 n (.exc hC upd_same ?_ ((denF_zip0 d1).mono n.sub))
    rw [upd_ne ne]; exact upd_same
  · rw [if_neg hl] at p1; exact False.elim p1
section
variable {X : Cx} {W : WX} {a : Expr} {es : List Expr} {C fI : Addr} {nm qual : Str} {pa : Pos} {q : List Pos} {ps : List PX} {re : TA} {te : ME (List D)} {pp pos : Pos} {k : Nat} {kws : List Keyword} {ks : List Str}
theorem run_excN {pins : List (Addr × Obj)} {σ : L2.St} {H : Hp} {s : Shared} {Q : VK} {us ws : List Value} {vs : List V} {kw : List (Str × Value)} {ns : List Str} (T : ExcN X.prog X.K X.mg nm qual pa q ps C fI) (TE : EvN qual pa q ps) (hne : ps ≠ []) (h9 : ps.length ≤ 900) (hr : Room k X.A) (hus : us.length ≤ sizeLine) (I : Inv X pins σ H s)
    (TB : BiN qual pa q ps us kw ws) (hlen : ws.length = ps.length) {zs : List Value} (rz : Vals vs zs) (hl : ∀ f, ((ps.map (·.p)).zip ws).reverse.lookup f = (ns.zip zs).reverse.lookup f) (h : QMk C ns vs H Q) :
    wpAny (model X.prog X.w) X.A (call (.ref C) us kw) (EP X pins σ Q) X.xe s := by
  have hlim := I.nolimit
  obtain ⟨mb, hb1, hb2⟩ := I.mod.blt
  have hbs := hb2 "super" (by decide)
  obtain ⟨hp, g, dr, tk, os⟩ := s
  refine wpAny_call (exc_madeN T TE TB hlen hne h9 hus I.kIn hlim (I.mod.glob.keeps I.bk) (hb1.keeps I.bk) (hbs.trans (by decide +kernel)) (by have := hr.dp; omega) fun h' tk' e d M => ?_)
  obtain ⟨oe, fv, hoe, hc, hd, hdat, h1⟩ := M.obj
  refine ⟨.ref e, _, inv_laid2 (t' := tk') I M.keep M.dbig M.new M.dne ?_ ?_, rfl, h.2 e d (I.hok.fresh M.new) (I.hok.fresh M.dbig) M.dne⟩
  · exact ⟨_, M.ns, fun f => by rw [hl f]; exact relO_zip0 rz⟩
  · exact ⟨⟨oe, fv, hoe, hc, hd, hdat⟩, ⟨oe, hoe⟩, fun h1 h2 ⟨oe, vs, e1, e2⟩ kk => ⟨oe, vs, kk _ e1, e2⟩⟩
/-- C(e, ..), an own exception -/
theorem u_excN (T : ExcN X.prog X.K X.mg nm qual pa q ps C fI) (TE : EvN qual pa q ps) (TB : ∀ us : List Value, us.length = ps.length → BiN qual pa q ps us [] us) (hne : ps ≠ []) (h9 : ps.length ≤ 900) (hr : Room k X.A) (ha : UA X W re te (a :: es)) (hg : Gl X nm := by rfl) (hdb : (nm == ("__debug__" : Str)) = false := by decide)
    (he : starEach (a :: es) X.env = (false, eval a X.env) :: starEach es X.env := by rfl) (hpl : (backTo pos (starEach es X.env)).any (·.1) = false := by rfl) :
    UE X W (tExcN C (ps.map (·.p)) re) (dExcN nm (ps.map (·.p)) te) (.Call (.Name nm pp) (a :: es) [] pos) := by
  refine ⟨⟨fun pins s σ H Q I h => ?_⟩, sn_excN (clOf_of T.gC) ha.sn⟩
  refine wpAny_Call_Name_kw (ld_glob I hg T.gC (PySem.W.callWith_K (h₀ := X.base) I.ok.mod.kin T.kC (thn (ha.pa.run pos pins s σ H _ I h) ?_) he hpl) hdb)
  rintro us s1 ⟨vs, H1, I1, r, q⟩
  have hl : us.length = ps.length := by rw [← r.length, q.1, List.length_map]
  exact ⟨I1.kIn, run_excN (us := us) T TE hne h9 hr (by rw [hl, sizeLine_eq]; exact Nat.le_trans h9 (by decide)) I1 (TB us hl) hl r (fun _ => rfl) q⟩
/-- C(p = e, ..) -/
theorem u_excNK (T : ExcN X.prog X.K X.mg nm qual pa q ps C fI) (TE : EvN qual pa q ps) (TB : ∀ us : List Value, us.length = ks.length → ∃ vs : List Value, vs.length = ps.length ∧ BiN qual pa q ps [] (ks.zip us) vs ∧ ∀ f, ((ps.map (·.p)).zip vs).reverse.lookup f = (ks.zip us).reverse.lookup f) (hne : ps ≠ []) (h9 : ps.length ≤ 900) (hr : Room k X.A)
    (hk : UK X W re te kws) (hg : Gl X nm := by rfl) (hdb : (nm == ("__debug__" : Str)) = false := by decide)
    (hall : (backToKw pos (keywordEach kws X.env)).all (·.1.isSome) = true := by rfl) (hks : (backToKw pos (keywordEach kws X.env)).filterMap (·.1) = ks := by rfl)
    (hpl : (backToKw pos (keywordEach kws X.env)).any (·.1.isNone) = false := by rfl) :
    UE X W (tExcN C ks re) (dExcN nm ks te) (.Call (.Name nm pp) [] kws pos) := by
  refine ⟨⟨fun pins s σ H Q I h => ?_⟩, sn_excN (clOf_of T.gC) hk.sn⟩
  refine wpAny_Call_Name_kw (ld_glob I hg T.gC ?_ hdb)
  refine PySem.W.callWith_KW0 (h₀ := X.base) I.ok.mod.kin T.kC hall (thn (hk.pk.run pos pins s σ H _ I h) fun ws s2 ⟨zs, H2, I2, rz, q2⟩ => ⟨I2.kIn, ?_⟩) hpl
  rw [hks]
  have hl : ws.length = ks.length := by rw [← rz.length, q2.1]
  obtain ⟨vs, l1, B, l2⟩ := TB ws hl
  exact run_excN T TE hne h9 hr (Nat.zero_le _) I2 B l1 rz l2 q2
end
end G
/-! plain: rows and tables of ints as lists -/
namespace ML
/-- row times column -/
def dot (a b : List Int) : Int := (List.zipWith (· * ·) a b).sum
/-- column j of the first n rows -/
def col (t : List (List Int)) (j : Nat) : List Int := t.map fun r => r.getD j 0
/-- row times table -/
def vm (r : List Int) (t : List (List Int)) : List Int := (List.range t.length).map fun j => dot r (col t j)
/-- the row of the standing table -/
def unit (n k : Nat) : List Int := (List.range n).map fun j => if j = k then 1 else 0
/-- a table of n rows of n -/
def Sq (n : Nat) (t : List (List Int)) : Prop := t.length = n ∧ ∀ r ∈ t, r.length = n
/-- the standing table -/
def still (n : Nat) : List (List Int) := (List.range n).map (unit n)
section
variable {α : Type} (T : α → List (List Int))
/-- the row behind a ticket -/
def run (r : List Int) (z : List α) : List Int := z.foldl (fun r c => vm r (T c)) r
variable {T} {n : Nat}
end
end ML
namespace ML
/-- all below 2^b -/
def Bd (b : Nat) (r : List Int) : Prop := ∀ x ∈ r, x.natAbs < 2 ^ b
theorem Bd.mono {b c : Nat} {r : List Int} (h : Bd b r) (l : b ≤ c) : Bd c r := fun x hx => Nat.lt_of_lt_of_le (h x hx) (Nat.pow_le_pow_right (by decide) l)
theorem Bd.getD {b : Nat} {r : List Int} (h : Bd b r) (i : Nat) : (r.getD i 0).natAbs < 2 ^ b := by
  rw [List.getD_eq_getElem?_getD]
  cases q : r[i]? with
  | none => exact Nat.two_pow_pos b
  | some x => exact h x (List.mem_of_getElem? q)
def BdT (b : Nat) (t : List (List Int)) : Prop := ∀ r ∈ t, Bd b r
theorem log2_lt {x : Int} {b : Nat} (h : x.natAbs < 2 ^ b) : x.natAbs.log2 ≤ b := by
  by_cases z : x.natAbs = 0
  · rw [z]; have : Nat.log2 0 = 0 := by decide +kernel
    omega
  · exact Nat.le_of_lt ((Nat.log2_lt z).mpr h)
end ML
namespace G
open PySem PySem.Spec PyProof.Rows L2
/-- data that can be shown and compared: leaves of at most B signs, weight, depth -/
structure Py (B W dp : Nat) (d : D) (p : PyData) : Prop where
  e : toPy d = some p
  sh : p.showable = true
  lv : p.leavesShort B = true
  w : p.weight ≤ W
  dp : p.depth ≤ dp
  lay : p.canLay0 = true
structure Pys (B W dp : Nat) (ds : List D) (ps : List PyData) : Prop where
  e : toPys ds = some ps
  sh : PyData.showableAll ps = true
  lv : PyData.leavesShortAll B ps = true
  w : PyData.weightAll ps ≤ W
  dp : PyData.depthAll ps ≤ dp
  lay : PyData.canLayAll0 ps = true
theorem Py.mono {B W W' k k' : Nat} {d : D} {p : PyData} (h : Py B W k d p) (hw : W ≤ W') (hk : k ≤ k') : Py B W' k' d p := ⟨h.e, h.sh, h.lv, Nat.le_trans h.w hw, Nat.le_trans h.dp hk, h.lay⟩
theorem Py.shaped {B W k : Nat} {d : D} {p : PyData} (h : Py B W k d p) (hk : k ≤ 60) : SeqAt.shaped p = true := by
  unfold SeqAt.shaped
  rw [h.lay, Bool.true_and, decide_eq_true_eq]
  have := h.dp
  omega
end G
namespace G
open PySem PySem.Spec PyProof.Rows L2
/-! ### plain: the deck -/
/-- a deck that b more draws do not wear out -/
def OkB (b : Nat) (k : Sk) : Prop := ∃ kk : Dk, k = ⟨some kk, none⟩ ∧ 0 ≤ kk.turn ∧ kk.turn + (b : Int) ≤ 100000000000 ∧ kk.cells.length ≤ 63
theorem OkB.mono {b c : Nat} {k : Sk} (h : OkB b k) (l : c ≤ b) : OkB c k := by
  obtain ⟨kk, h1, h2, h3, h4⟩ := h
  exact ⟨kk, h1, h2, by omega, h4⟩
/-! ### plain: comprehensions -/
theorem lcL_pure {g : MG} {tt : ME Bool} {te : ME D} {s0 : List Sl} {s1 : D → List Sl} {t : D → Bool} {e : D → D} {k : Sk} : ∀ {ds : List D} {n : Nat}, n + ds.length ≤ sizeLine → (∀ d ∈ ds, g d s0 = some (s1 d)) → (∀ d ∈ ds, tt (s1 d) k = .ok (t d) k) → (∀ d ∈ ds, t d = true → te (s1 d) k = .ok (e d) k) →
    lcL g tt te s0 n ds k = .ok ((ds.filter t).map e) k
  | [], _, _, _, _, _ => rfl
  | d :: ds, n, hn, hg, ht, he => by
    rw [List.length_cons] at hn
    unfold lcL
    rw [hg d (List.mem_cons_self ..)]
    dsimp only
    rw [ht d (List.mem_cons_self ..)]
    cases q : t d with
    | true =>
      dsimp only
      rw [he d (List.mem_cons_self ..) q]
      dsimp only
      rw [if_pos (by omega), lcL_pure (ds := ds) (n := n + 1) (by omega) (fun d h => hg d (List.mem_cons_of_mem _ h)) (fun d h => ht d (List.mem_cons_of_mem _ h)) (fun d h => he d (List.mem_cons_of_mem _ h))]
      dsimp only
      rw [List.filter_cons_of_pos q, List.map_cons]
    | false =>
      dsimp only
      rw [lcL_pure (ds := ds) (n := n) (by omega) (fun d h => hg d (List.mem_cons_of_mem _ h)) (fun d h => ht d (List.mem_cons_of_mem _ h)) (fun d h => he d (List.mem_cons_of_mem _ h))]
      rw [List.filter_cons_of_neg (by rw [q]; exact Bool.false_ne_true)]
/-- some of the items, each told with what P says -/
inductive Pk (P : D → D → Prop) : List D → List D → Prop
  | nil : Pk P [] []
  | skip {d : D} {ds ys : List D} : Pk P ds ys → Pk P (d :: ds) ys
  | take {d y : D} {ds ys : List D} : P d y → Pk P ds ys → Pk P (d :: ds) (y :: ys)
theorem Pk.len {P : D → D → Prop} {ds ys : List D} (h : Pk P ds ys) : ys.length ≤ ds.length := by
  induction h with
  | nil => exact Nat.le_refl _
  | skip _ ih => exact Nat.le_succ_of_le ih
  | take _ _ ih => exact Nat.succ_le_succ ih
theorem Pk.all {P : D → D → Prop} {Q : D → Prop} (hq : ∀ d y, P d y → Q y) {ds ys : List D} (h : Pk P ds ys) : ∀ y ∈ ys, Q y := by
  induction h with
  | nil => exact fun _ h => nomatch h
  | skip _ ih => exact ih
  | take p _ ih =>
    intro y hy
    rcases List.mem_cons.mp hy with rfl | hy
    · exact hq _ _ p
    · exact ih y hy
theorem Pk.sub {ds ys : List D} (h : Pk (fun d y => y = d) ds ys) : ys.Sublist ds := by
  induction h with
  | nil => exact .slnil
  | skip _ ih => exact .cons _ ih
  | take p _ ih => subst p; exact .cons₂ _ ih
/-! ### plain: repr -/
theorem eqD_same_str {z : Str} {neg : Bool} : eqD neg (.str z) (.str z) = some (.bl (!neg)) := by
  unfold eqD
  simp
end G
namespace G
open PySem PySem.Spec PyProof.Rows L2
/-- strings of signs below 128 -/
def Low (z : Str) : Prop := ∀ c ∈ z.cps.toList, c < 128
theorem Low.ok {z : Str} (h : Low z) : PyData.strOk z = true := by
  unfold PyData.strOk
  rw [Array.all_eq_true_iff_forall_mem]
  intro c hc
  have := h c (Array.mem_toList_iff.mpr hc)
  simp; omega
end G
namespace G
open PySem PySem.Spec PyProof.Rows L2
/-! ### the denotations, applied -/
def bE {α β : Type} (r : RE α) (f : α → Sk → RE β) : RE β := match r with
  | .ok a k => f a k
  | .ex c fs k => .ex c fs k
  | .no => .no
def oE {α : Type} (o : Option α) (k : Sk) : RE α := match o with
  | some a => .ok a k
  | none => .no
def bR {α : Type} (r : RE α) (s : List Sl) (f : α → Sk → RS) : RS := match r with
  | .ok a k => f a k
  | .ex c fs k => .ex c fs s k
  | .no => .no
def bN (r : RS) (b : MS) : RS := match r with
  | .nx s' k' => b s' k'
  | .brk s' k' => .brk s' k'
  | .ct s' k' => .ct s' k'
  | .ret d k' => .ret d k'
  | .ex c fs s' k' => .ex c fs s' k'
  | .no => .no
def oS (o : Option (List Sl)) (k : Sk) : RS := match o with
  | some s' => .nx s' k
  | none => .no
def fR (r : RS) : RE D := match r with
  | .nx _ k' => .ok .non k'
  | .ret d k' => .ok d k'
  | .ex c fs _ k' => .ex c fs k'
  | _ => .no
def boolOf : D → Option Bool
  | .bl b => some b
  | _ => none
section
variable {α β : Type} {s : List Sl} {k : Sk}
theorem bE_ok {a : α} {f : α → Sk → RE β} : bE (.ok a k) f = f a k := rfl
theorem bR_ok {a : α} {f : α → Sk → RS} : bR (.ok a k) s f = f a k := rfl
theorem a_eb {m : ME α} {f : α → ME β} : eb m f s k = bE (m s k) fun a k' => f a s k' := rfl
theorem a_eo {o : Option α} : eo o s k = oE o k := rfl
theorem a_var {i : Nat} : dVar i s k = match s[i]? with
  | some (.val d) => .ok d k
  | _ => .no := rfl
theorem a_op {f : D → D → Option D} {ta tb : ME D} : dOp f ta tb s k = bE (ta s k) fun x k1 => bE (tb s k1) fun y k2 => oE (f x y) k2 := rfl
theorem a_B {t : ME D} : dB t s k = bE (t s k) fun x k1 => oE (boolOf x) k1 := rfl
theorem a_un {f : D → Option D} {ta : ME D} : dUn f ta s k = bE (ta s k) fun x k1 => oE (f x) k1 := rfl
theorem a_andV {ta tb : ME D} : dAndV ta tb s k = bE (ta s k) fun x k1 => match x with
  | .bl true => tb s k1
  | .bl false => .ok (.bl false) k1
  | _ => .no := by
  unfold dAndV
  rw [a_eb]
  congr 1
  funext x k1
  cases x with
  | bl b => cases b <;> rfl
  | _ => rfl
theorem a_or {ta tb : ME Bool} : dOr ta tb s k = bE (ta s k) fun x k1 => if x = true then .ok true k1 else tb s k1 := by
  unfold dOr
  rw [a_eb]
  congr 1
  funext x k1
  split <;> rfl
theorem a_not {ta : ME Bool} : dNot ta s k = bE (ta s k) fun x k1 => .ok (!x) k1 := rfl
theorem a_cons {ta : ME D} {tr : ME (List D)} : dCons ta tr s k = bE (ta s k) fun x k1 => bE (tr s k1) fun xs k2 => .ok (x :: xs) k2 := rfl
theorem a_tup {te : ME (List D)} : dTup te s k = bE (te s k) fun xs k1 => if xs.length ≤ sizeLine then .ok (.tup xs) k1 else .no := by
  unfold dTup
  rw [a_eb]
  congr 1
  funext x k1
  by_cases h : x.length ≤ sizeLine
  · rw [if_pos h, if_pos h]; rfl
  · rw [if_neg h, if_neg h]; rfl
theorem a_lst {te : ME (List D)} : dLst te s k = bE (te s k) fun xs k1 => if xs.length ≤ sizeLine then .ok (.lst xs) k1 else .no := by
  unfold dLst
  rw [a_eb]
  congr 1
  funext x k1
  by_cases h : x.length ≤ sizeLine
  · rw [if_pos h, if_pos h]; rfl
  · rw [if_neg h, if_neg h]; rfl
theorem a_callB {f : List D → Option D} {te : ME (List D)} : dCallB f te s k = bE (te s k) fun xs k1 => oE (f xs) k1 := rfl
theorem a_call {g : Fn} {te : ME (List D)} : dCall g te s k = bE (te s k) fun xs k1 => g xs k1 := rfl
theorem a_items {t : ME D} : dItems t s k = bE (t s k) fun d k1 => oE (itemsOf d) k1 := rfl
theorem a_methT {T : String} {f : D → List D → Option D} {to : ME D} {te : ME (List D)} : dMethT T f to te s k = bE (to s k) fun x k1 => match okTy T x with
  | true => bE (te s k1) fun xs k2 => oE (f x xs) k2
  | false => .no := by
  unfold dMethT
  rw [a_eb]
  congr 1
  funext x k1
  split <;> rename_i h <;> simp only [h]
  rfl
theorem a_slice {t : ME D} {lo hi : ME (Option Int)} : dSlice t lo hi s k = bE (t s k) fun d k1 => bE (lo s k1) fun l k2 => bE (hi s k2) fun h k3 => oE (sliceD d l h) k3 := rfl
def lR (r : RE (List D)) : RE D := match r with
  | .ok ys k' => .ok (.lst ys) k'
  | .ex _ _ _ => .no
  | .no => .no
theorem a_lc {ti : ME (List D)} {g : MG} {tt : ME Bool} {te : ME D} {vs : List Nat} : dLc ti g tt te vs s k = bE (ti s k) fun ds k1 => lR (lcL g tt te (wipeS s vs) 0 ds k1) := rfl
theorem rng1_of {r : Int} (h : okI r = true) : rng1 [.int r] = some ((List.range r.toNat).map fun i => D.int (i : Nat)) := by
  simp [rng1, h]
theorem a_ss {a b : MS} : ss a b s k = bN (a s k) b := rfl
theorem a_sb {m : ME α} {f : α → MS} : sb m f s k = bR (m s k) s fun a k' => f a s k' := rfl
theorem a_ret {t : ME D} : sRet t s k = bR (t s k) s fun d k' => .ret d k' := rfl
theorem a_if {c : ME Bool} {t u : MS} : sIf c t u s k = bR (c s k) s fun b k' => if b = true then t s k' else u s k' := by
  unfold sIf
  rw [a_sb]
  congr 1
  funext x k1
  split <;> rfl
theorem a_asg {t : ME D} {g : MG} : sAsg t g s k = bR (t s k) s fun d k' => oS (g d s) k' := rfl
theorem a_par {i j : Nat} {te : ME (List D)} : sPar i j te s k = bR (te s k) s fun ds k' => match ds with
  | [x, y] => .nx ((s.set i (.val x)).set j (.val y)) k'
  | _ => .no := rfl
theorem a_for {ti : ME (List D)} {g : MG} {body : MS} : sFor ti g body s k = bR (ti s k) s fun ds k' => loopS g body ds s k' := rfl
theorem a_fn {np nN : Nat} {body : MS} {ds : List D} : fnDen np nN body ds k = if ds.length = np then fR (body (ds.map Sl.val ++ List.replicate (nN - ds.length) Sl.emp) k) else .no := rfl
end
end G
namespace G
open PySem PySem.Spec PyProof.Rows L2
/-! ### plain: typed data -/
def tI (r : List Int) : D := .tup (r.map D.int)
def tT (t : List (List Int)) : D := .tup (t.map tI)
theorem okMul_bd {a b : Nat} {x y : Int} (hx : x.natAbs < 2 ^ a) (hy : y.natAbs < 2 ^ b) (h : a + b < 1000000) : okMul x y = true := by
  unfold okMul
  rw [decide_eq_true_eq]
  have := ML.log2_lt hx
  have := ML.log2_lt hy
  omega
theorem muls_bd {a b : Nat} {x y : Int} (hx : x.natAbs < 2 ^ a) (hy : y.natAbs < 2 ^ b) (h : a + b < 1000000) : mulsD (.int x) (.int y) = some (.int (x * y)) := by
  show chk (okMul x y) _ = _
  exact chk_pos (okMul_bd hx hy h)
theorem okI_nat {n : Nat} (h : n ≤ 1000000) : okI (n : Int) = true := by
  rw [okI_iff]; omega
theorem atI_nat {α : Type} {xs : List α} {i : Nat} {d : α} (h : i < xs.length) : L2.atI xs (i : Nat) = some (xs.getD i d) := by
  unfold L2.atI
  have : L2.ixN xs.length (i : Nat) = some i := by
    unfold L2.ixN
    simp; omega
  rw [this]
  show xs[i]? = _
  rw [List.getD_eq_getElem?_getD, List.getElem?_eq_getElem h]; rfl
end G
namespace G
open PySem PySem.Spec PyProof.Rows L2
/-! ### plain: big-step rules for the denotations -/
section
variable {α : Type} {s s1 s2 st : List Sl} {k k1 k2 k3 : Sk} {ta tb tc : ME D} {x y z d : D} {te : ME (List D)} {xs ys : List D} {body a b : MS} {r : RS}
theorem ev_fn {np nN : Nat} {ds : List D} (h : body (ds.map Sl.val ++ List.replicate (nN - ds.length) Sl.emp) k = .ret d k1) (hl : ds.length = np := by rfl) : fnDen np nN body ds k = .ok d k1 := by
  rw [a_fn, if_pos hl, h]; rfl
theorem ev_ep {a : α} : ep a s k = .ok a k := rfl
theorem ev_var {i : Nat} (h : s[i]? = some (.val d) := by rfl) : dVar i s k = .ok d k := by
  rw [a_var, h]
theorem ev_op {f : D → D → Option D} (ha : ta s k = .ok x k1) (hb : tb s k1 = .ok y k2) (h : f x y = some z) : dOp f ta tb s k = .ok z k2 := by
  rw [a_op, ha, bE_ok, hb, bE_ok, h]; rfl
theorem ev_un {f : D → Option D} (ha : ta s k = .ok x k1) (h : f x = some z) : dUn f ta s k = .ok z k1 := by
  rw [a_un, ha, bE_ok, h]; rfl
theorem ev_B {v : Bool} (h : ta s k = .ok (.bl v) k1) : dB ta s k = .ok v k1 := by
  rw [a_B, h]; rfl
theorem ev_not {t : ME Bool} {v : Bool} (h : t s k = .ok v k1) : dNot t s k = .ok (!v) k1 := by
  rw [a_not, h]; rfl
theorem ev_andT (ha : ta s k = .ok (.bl true) k1) (hb : tb s k1 = .ok y k2) : dAndV ta tb s k = .ok y k2 := by
  rw [a_andV, ha]; exact hb
theorem ev_borF {p q : ME Bool} {v : Bool} (ha : p s k = .ok false k1) (hb : q s k1 = .ok v k2) : dOr p q s k = .ok v k2 := by
  rw [a_or, ha]; exact hb
theorem ev_nil : dNil s k = .ok [] k := rfl
theorem ev_cons (ha : ta s k = .ok x k1) (hr : te s k1 = .ok xs k2) : dCons ta te s k = .ok (x :: xs) k2 := by
  rw [a_cons, ha, bE_ok, hr]; rfl
theorem ev_tup (h : te s k = .ok xs k1) (hl : xs.length ≤ sizeLine := by first | decide | exact Nat.le_of_ble_eq_true rfl) : dTup te s k = .ok (.tup xs) k1 := by
  rw [a_tup, h, bE_ok, if_pos hl]
theorem ev_lst (h : te s k = .ok xs k1) (hl : xs.length ≤ sizeLine := by first | decide | exact Nat.le_of_ble_eq_true rfl) : dLst te s k = .ok (.lst xs) k1 := by
  rw [a_lst, h, bE_ok, if_pos hl]
theorem ev_callB {f : List D → Option D} (h : te s k = .ok xs k1) (hf : f xs = some z) : dCallB f te s k = .ok z k1 := by
  rw [a_callB, h, bE_ok, hf]; rfl
theorem ev_call {g : Fn} (h : te s k = .ok xs k1) (hf : g xs k1 = .ok z k2) : dCall g te s k = .ok z k2 := by
  rw [a_call, h, bE_ok, hf]
theorem ev_items (h : ta s k = .ok x k1) (hf : itemsOf x = some xs) : dItems ta s k = .ok xs k1 := by
  rw [a_items, h, bE_ok, hf]; rfl
theorem ev_rng1 {n : Int} (h : te s k = .ok [.int n] k1) (hn : okI n = true) : eb te (fun ds => eo (rng1 ds)) s k = .ok ((List.range n.toNat).map fun i => D.int (i : Nat)) k1 := by
  rw [a_eb, h, bE_ok, a_eo, rng1_of hn]; rfl
theorem ev_rngN {n : Nat} (h : te s k = .ok [.int (n : Nat)] k1) (hn : n ≤ 1000000) : eb te (fun ds => eo (rng1 ds)) s k = .ok ((List.range n).map fun i => D.int (i : Nat)) k1 := ev_rng1 h (okI_nat hn)
theorem ev_methT {T : String} {f : D → List D → Option D} (ho : ta s k = .ok x k1) (ha : te s k1 = .ok xs k2) (hf : f x xs = some z) (ht : okTy T x = true := by rfl) : dMethT T f ta te s k = .ok z k2 := by
  rw [a_methT, ho, bE_ok, ht]
  show bE (te s k1) _ = _
  rw [ha, bE_ok, hf]; rfl
theorem ev_slice {lo hi : ME (Option Int)} {l h : Option Int} (ha : ta s k = .ok x k1) (hl : lo s k1 = .ok l k2) (hh : hi s k2 = .ok h k3) (hz : sliceD x l h = some z) : dSlice ta lo hi s k = .ok z k3 := by
  rw [a_slice, ha, bE_ok, hl, bE_ok, hh, bE_ok, hz]; rfl
/-! statements -/
theorem es_ret (h : ta s k = .ok d k1) : sRet ta s k = .ret d k1 := by
  rw [a_ret, h]; rfl
theorem es_asg {g : MG} (h : ta s k = .ok d k1) (hg : g d s = some s1 := by rfl) : sAsg ta g s k = .nx s1 k1 := by
  rw [a_asg, h, bR_ok, hg]; rfl
theorem es_ss (h : a s k = .nx s1 k1) (h2 : b s1 k1 = r) : ss a b s k = r := by
  rw [a_ss, h]; exact h2
theorem es_ssR (h : a s k = .ret d k1) : ss a b s k = .ret d k1 := by
  rw [a_ss, h]; rfl
theorem es_ifT {c : ME Bool} (hc : c s k = .ok true k1) (h : a s k1 = r) : sIf c a b s k = r := by
  rw [a_if, hc]; exact h
theorem es_ifF {c : ME Bool} (hc : c s k = .ok false k1) (h : b s k1 = r) : sIf c a b s k = r := by
  rw [a_if, hc]; exact h
theorem es_for {ti : ME (List D)} {g : MG} (hi : ti s k = .ok xs k1) (h : loopS g body xs s k1 = r) : sFor ti g body s k = r := by
  rw [a_for, hi]; exact h
theorem es_par {i j : Nat} (h : te s k = .ok [x, y] k1) : sPar i j te s k = .nx ((s.set i (.val x)).set j (.val y)) k1 := by
  rw [a_par, h]; rfl
theorem es_nx : sNx s k = .nx s k := rfl
end
end G
namespace G
open PySem PySem.Spec PyProof.Rows L2
/-! ### plain: the deck, draws, loops with a budget of draws -/
/-- a deck that b more draws do not wear out; bl, dr: which key names it uses -/
def OkD (bl dr : Bool) (b : Nat) (k : Sk) : Prop := ∃ cs m t, k = ⟨some ⟨cs, m, t, bl, dr⟩, none⟩ ∧ 0 ≤ t ∧ t + (b : Int) ≤ 2 ^ 100 ∧ 0 ≤ m ∧ m < 2 ^ 40 ∧ cs.length ≤ 64
section
variable {bl dr : Bool} {b c : Nat} {k k1 : Sk} {s : List Sl}
theorem OkD.mono (h : OkD bl dr b k) (l : c ≤ b) : OkD bl dr c k := by
  obtain ⟨cs, m, t, h1, h2, h3, h4⟩ := h
  exact ⟨cs, m, t, h1, h2, by omega, h4⟩
/-- a loop that draws, by an invariant over what is done -/
theorem loop_dr {α : Type} {g : MG} {body : MS} {f : α → D} (I : List α → List Sl → Prop) (c : Nat) (full : List α) {b : Nat} {s : List Sl} {k : Sk}
    (hs : ∀ pre a post s b k, full = pre ++ a :: post → I pre s → OkD bl dr (b + c) k → ∃ s1 s' k', g (f a) s = some s1 ∧ body s1 k = .nx s' k' ∧ I (pre ++ [a]) s' ∧ OkD bl dr b k') (hi : I [] s) (ok : OkD bl dr (b + c * full.length) k) :
    ∃ s' k', loopS g body (full.map f) s k = .nx s' k' ∧ I full s' ∧ OkD bl dr b k' := by
  have key : ∀ (l pre : List α) {b : Nat} {s : List Sl} {k : Sk}, full = pre ++ l → I pre s → OkD bl dr (b + c * l.length) k → ∃ s' k', loopS g body (l.map f) s k = .nx s' k' ∧ I full s' ∧ OkD bl dr b k' := by
    intro l
    induction l with
    | nil =>
      intro pre b s k e hi ok
      rw [List.append_nil] at e
      exact ⟨s, k, rfl, e ▸ hi, ok.mono (Nat.le_add_right _ _)⟩
    | cons a l ih =>
      intro pre b s k e hi ok
      rw [List.length_cons] at ok
      have ok' : OkD bl dr (b + c * l.length + c) k := ok.mono (by rw [Nat.mul_succ]; omega)
      obtain ⟨s1, s', k', h0, h1, h2, h3⟩ := hs pre a l s _ k e hi ok'
      obtain ⟨s2, k2, e1, e2, e3⟩ := ih (pre ++ [a]) (b := b) (by rw [List.append_assoc]; exact e) h2 h3
      refine ⟨s2, k2, ?_, e2, e3⟩
      rw [List.map_cons]
      unfold loopS
      rw [h0]
      dsimp only
      rw [h1]
      exact e1
  exact key full [] rfl hi ok
/-- a loop without draws -/
theorem loop_pu {α : Type} {g : MG} {body : MS} {f : α → D} (I : List α → List Sl → Prop) {k : Sk} (full : List α) {s : List Sl}
    (hs : ∀ pre a post s, full = pre ++ a :: post → I pre s → ∃ s1 s', g (f a) s = some s1 ∧ body s1 k = .nx s' k ∧ I (pre ++ [a]) s') (hi : I [] s) :
    ∃ s', loopS g body (full.map f) s k = .nx s' k ∧ I full s' := by
  have key : ∀ (l pre : List α) {s : List Sl}, full = pre ++ l → I pre s → ∃ s', loopS g body (l.map f) s k = .nx s' k ∧ I full s' := by
    intro l
    induction l with
    | nil =>
      intro pre s e hi
      rw [List.append_nil] at e
      exact ⟨s, rfl, e ▸ hi⟩
    | cons a l ih =>
      intro pre s e hi
      obtain ⟨s1, s', h0, h1, h2⟩ := hs pre a l s e hi
      obtain ⟨s2, e1, e2⟩ := ih (pre ++ [a]) (by rw [List.append_assoc]; exact e) h2
      refine ⟨s2, ?_, e2⟩
      rw [List.map_cons]
      unfold loopS
      rw [h0]
      dsimp only
      rw [h1]
      exact e1
  exact key full [] rfl hi
/-! ints -/
theorem e_add {x y : Int} : addD (.int x) (.int y) = some (.int (x + y)) := rfl
theorem e_mod {x m : Int} (h : 0 < m) : modD (.int x) (.int m) = some (.int (x % m)) := chk_pos (decide_eq_true h)
theorem e_fdiv {x m : Int} (h : 0 < m) (h2 : m.natAbs < 2 ^ 250) : fdivD (.int x) (.int m) = some (.int (x / m)) := chk_pos (by
  unfold okDiv
  have := ML.log2_lt h2
  rw [decide_eq_true h, Bool.true_and, decide_eq_true_eq]; omega)
theorem e_mul {x y : Int} (hx : x.natAbs < 2 ^ 250) (hy : y.natAbs < 2 ^ 250) : mulsD (.int x) (.int y) = some (.int (x * y)) := muls_bd hx hy (by decide)
theorem e_int {x : Int} : one intD [.int x] = some (.int x) := rfl
theorem na {x : Int} {b : Nat} (h0 : -(2 ^ b : Nat) < x) (h1 : x < (2 ^ b : Nat)) : x.natAbs < 2 ^ b := by omega
theorem na_mono {x : Int} {a b : Nat} (h : x.natAbs < 2 ^ a) (l : a ≤ b) : x.natAbs < 2 ^ b := Nat.lt_of_lt_of_le h (Nat.pow_le_pow_right (by decide) l)
theorem na_mul {x y : Int} {a b : Nat} (hx : x.natAbs < 2 ^ a) (hy : y.natAbs < 2 ^ b) : (x * y).natAbs < 2 ^ (a + b) := by
  rw [Int.natAbs_mul, Nat.pow_add]
  exact Nat.mul_lt_mul_of_lt_of_le hx (Nat.le_of_lt hy) (Nat.two_pow_pos b)
theorem na_mod (x : Int) {m : Int} {b : Nat} (h : 0 < m) (hm : m < (2 ^ b : Nat)) : (x % m).natAbs < 2 ^ b := by
  have h1 := Int.emod_nonneg x (Int.ne_of_gt h)
  have h2 := Int.emod_lt_of_pos x h
  omega
/-! the deck -/
theorem eb_ok {α β : Type} {m : ME α} {f : α → ME β} {a : α} (h : m s k = .ok a k1) : eb m f s k = f a s k1 := by
  rw [a_eb, h]; rfl
theorem sb_ok {α : Type} {m : ME α} {f : α → MS} {a : α} (h : m s k = .ok a k1) : sb m f s k = f a s k1 := by
  rw [a_sb, h]; rfl
theorem ev_turn {to : ME D} {cs m t me} {bl : Bool} (h : to s k = .ok .deck ⟨some ⟨cs, m, t, bl, false⟩, me⟩) : dkGet "turn" to s k = .ok (.int t) ⟨some ⟨cs, m, t, bl, false⟩, me⟩ := (eb_ok h).trans rfl
theorem ev_mixed {to : ME D} {cs m t me} (h : to s k = .ok .deck ⟨some ⟨cs, m, t, false, false⟩, me⟩) : dkGet "mixed" to s k = .ok (.int m) ⟨some ⟨cs, m, t, false, false⟩, me⟩ := (eb_ok h).trans rfl
theorem es_turn {to te : ME D} {cs m t me i} {bl : Bool} (he : te s k = .ok (.int i) k1) (h : to s k1 = .ok .deck ⟨some ⟨cs, m, t, bl, false⟩, me⟩) : sDkSet "turn" to te s k = .nx s ⟨some ⟨cs, m, i, bl, false⟩, me⟩ := (sb_ok he).trans ((sb_ok h).trans rfl)
theorem ev_has {to : ME D} {cs m t me} {bl dr : Bool} (h : to s k = .ok .deck ⟨some ⟨cs, m, t, bl, dr⟩, me⟩) : dkHas to s k = .ok (.bl (!cs.isEmpty)) ⟨some ⟨cs, m, t, bl, dr⟩, me⟩ := (eb_ok h).trans rfl
theorem ev_pop {to : ME D} {cs m t me c} {bl dr : Bool} (h : to s k = .ok .deck ⟨some ⟨cs, m, t, bl, dr⟩, me⟩) (hc : cs.getLast? = some c) : dkPop to s k = .ok (.int c) ⟨some ⟨cs.dropLast, m, t, bl, dr⟩, me⟩ := by
  refine (eb_ok h).trans ?_
  dsimp only
  rw [hc]
theorem es_app {to te : ME D} {cs m t me i} {bl dr : Bool} (h : to s k = .ok .deck ⟨some ⟨cs, m, t, bl, dr⟩, me⟩) (he : te s ⟨some ⟨cs, m, t, bl, dr⟩, me⟩ = .ok (.int i) ⟨some ⟨cs, m, t, bl, dr⟩, me⟩) (hl : cs.length < sizeLine) : sDkApp to te s k = .nx s ⟨some ⟨cs ++ [i], m, t, bl, dr⟩, me⟩ := by
  refine (sb_ok h).trans ?_
  refine (sb_ok he).trans ?_
  dsimp only
  rw [if_pos hl]
/-- the draw of the laws k00 to k14, k82 to k84 -/
def drawA (c1 c2 c3 c4 : Int) : MS := ss (sDkSet "turn" (dVar 0) (dOp addD (dkGet "turn" (dVar 0)) (ep (.int 1))))
  (ss (sAsg (dOp addD (dkGet "mixed" (dVar 0)) (dOp mulsD (dOp mulsD (ep (.int c1)) (dkGet "turn" (dVar 0))) (dkGet "turn" (dVar 0)))) (mName 2))
  (ss (sIf (dB (dkHas (dVar 0))) (ss (sAsg (dkPop (dVar 0)) (mName 3))
    (ss (sIf (dB (dOp geD (dVar 3) (dOp powD (ep (.int 10)) (ep (.int 18))))) (ss (sDkApp (dVar 0) (dOp fdivD (dVar 3) (dVar 1)))
    (sRet (dOp modD (dCallB (one intD) (dCons (dVar 3) dNil)) (dVar 1)))) sNx)
    (sAsg (dOp addD (dVar 2) (dCallB (one intD) (dCons (dVar 3) dNil))) (mName 2)))) sNx)
  (ss (sAsg (dOp modD (dOp mulsD (dCallB (one intD) (dCons (dOp addD (dOp modD (dCallB (one intD) (dCons (dVar 2) dNil)) (ep (.int 2147483579))) (ep (.int c2))) dNil)) (ep (.int 48271))) (ep (.int 2147483647))) (mName 2))
  (ss (sAsg (dOp modD (dCallB (one intD) (dCons (dOp addD (dOp addD (dOp mulsD (dVar 2) (dVar 2)) (dOp mulsD (ep (.int c3)) (dkGet "turn" (dVar 0)))) (ep (.int c4))) dNil)) (ep (.int 2147483563))) (mName 2))
  (sRet (dOp modD (dOp fdivD (dOp modD (dCallB (one intD) (dCons (dOp mulsD (dVar 2) (ep (.int 40692))) dNil)) (ep (.int 2147483587))) (ep (.int 64))) (dVar 1)))))))
/-- what a draw gives -/
def DrawOk (bl dr : Bool) (fn : Fn) : Prop := ∀ (m : Int) (b : Nat) (k : Sk), 0 < m → m ≤ 1000000000 → OkD bl dr (b + 1) k → ∃ r k', fn [.deck, .int m] k = .ok (.int r) k' ∧ 0 ≤ r ∧ r < m ∧ OkD bl dr b k'
theorem drawA_ok {c1 c2 c3 c4 : Int} (h1 : c1.natAbs < 2 ^ 40) (h2 : c2.natAbs < 2 ^ 40) (h3 : c3.natAbs < 2 ^ 40) : DrawOk false false (fnDen 2 4 (drawA c1 c2 c3 c4)) := by
  intro many b k m0 m1 ok
  obtain ⟨cs, mx, t, rfl, t0, t1, x0, x1, hl⟩ := ok
  have tb : (t + 1).natAbs < 2 ^ 101 := by omega
  have mb : many.natAbs < 2 ^ 40 := by omega
  -- the last three rows, from any figure
  have tail : ∀ (fig : Int) (a3 : Sl) (cs : List Int), cs.length ≤ 64 → ∃ r k', (ss (sAsg (dOp modD (dOp mulsD (dCallB (one intD) (dCons (dOp addD (dOp modD (dCallB (one intD) (dCons (dVar 2) dNil)) (ep (.int 2147483579))) (ep (.int c2))) dNil)) (ep (.int 48271))) (ep (.int 2147483647))) (mName 2))
      (ss (sAsg (dOp modD (dCallB (one intD) (dCons (dOp addD (dOp addD (dOp mulsD (dVar 2) (dVar 2)) (dOp mulsD (ep (.int c3)) (dkGet "turn" (dVar 0)))) (ep (.int c4))) dNil)) (ep (.int 2147483563))) (mName 2))
      (sRet (dOp modD (dOp fdivD (dOp modD (dCallB (one intD) (dCons (dOp mulsD (dVar 2) (ep (.int 40692))) dNil)) (ep (.int 2147483587))) (ep (.int 64))) (dVar 1))))) [.val .deck, .val (.int many), .val (.int fig), a3] ⟨some ⟨cs, mx, t + 1, false, false⟩, none⟩ = .ret (.int r) k' ∧ 0 ≤ r ∧ r < many ∧ OkD false false b k' := by
    intro fig a3 cs hl
    have f1 : (fig % 2147483579 + c2).natAbs < 2 ^ 42 := by
      have := na_mod fig (m := 2147483579) (b := 31) (by decide) (by decide)
      omega
    have f2 := na_mod ((fig % 2147483579 + c2) * 48271) (m := 2147483647) (b := 31) (by decide) (by decide)
    have f3 := na_mod (((fig % 2147483579 + c2) * 48271 % 2147483647) * ((fig % 2147483579 + c2) * 48271 % 2147483647) + c3 * (t + 1) + c4) (m := 2147483563) (b := 31) (by decide) (by decide)
    refine ⟨_, _, es_ss (es_asg (ev_op (ev_op (ev_callB (ev_cons (ev_op (ev_op (ev_callB (ev_cons ev_var ev_nil) e_int) ev_ep (e_mod (by decide))) ev_ep e_add) ev_nil) e_int) ev_ep (e_mul (na_mono f1 (by decide)) (by decide +kernel))) ev_ep (e_mod (by decide))))
      (es_ss (es_asg (ev_op (ev_callB (ev_cons (ev_op (ev_op (ev_op ev_var ev_var (e_mul (na_mono f2 (by decide)) (na_mono f2 (by decide)))) (ev_op ev_ep (ev_turn ev_var) (e_mul (na_mono h3 (by decide)) (na_mono tb (by decide)))) e_add) ev_ep e_add) ev_nil) e_int) ev_ep (e_mod (by decide))))
      (es_ret (ev_op (ev_op (ev_op (ev_callB (ev_cons (ev_op ev_var ev_ep (e_mul (na_mono f3 (by decide)) (by decide +kernel))) ev_nil) e_int) ev_ep (e_mod (by decide))) ev_ep (e_fdiv (by decide) (by decide +kernel))) ev_var (e_mod m0)))), Int.emod_nonneg _ (Int.ne_of_gt m0), Int.emod_lt_of_pos _ m0, cs, mx, t + 1, rfl, by omega, by omega, x0, x1, hl⟩
  have st0 : sDkSet "turn" (dVar 0) (dOp addD (dkGet "turn" (dVar 0)) (ep (.int 1))) [.val .deck, .val (.int many), .emp, .emp] ⟨some ⟨cs, mx, t, false, false⟩, none⟩ = .nx [.val .deck, .val (.int many), .emp, .emp] ⟨some ⟨cs, mx, t + 1, false, false⟩, none⟩ :=
    es_turn (ev_op (ev_turn ev_var) ev_ep e_add) ev_var
  have st1 : sAsg (dOp addD (dkGet "mixed" (dVar 0)) (dOp mulsD (dOp mulsD (ep (.int c1)) (dkGet "turn" (dVar 0))) (dkGet "turn" (dVar 0)))) (mName 2) [.val .deck, .val (.int many), .emp, .emp] ⟨some ⟨cs, mx, t + 1, false, false⟩, none⟩ = .nx [.val .deck, .val (.int many), .val (.int (mx + c1 * (t + 1) * (t + 1))), .emp] ⟨some ⟨cs, mx, t + 1, false, false⟩, none⟩ :=
    es_asg (ev_op (ev_mixed ev_var) (ev_op (ev_op ev_ep (ev_turn ev_var) (e_mul (na_mono h1 (by decide)) (na_mono tb (by decide)))) (ev_turn ev_var) (e_mul (na_mono (na_mul h1 tb) (by decide)) (na_mono tb (by decide)))) e_add)
  cases q : cs.getLast? with
  | none =>
    have hcs : cs = [] := List.getLast?_eq_none_iff.mp q
    subst hcs
    obtain ⟨r, k', e, r0, r1, ok'⟩ := tail (mx + c1 * (t + 1) * (t + 1)) .emp [] (by decide)
    refine ⟨r, k', ev_fn (es_ss st0 (es_ss st1 (es_ss (es_ifF (ev_B (ev_has ev_var)) es_nx) e))), r0, r1, ok'⟩
  | some cell =>
    have hne : cs ≠ [] := fun z => by rw [z] at q; cases q
    have hem : (!cs.isEmpty) = true := by cases cs with
      | nil => exact absurd rfl hne
      | cons _ _ => rfl
    have hd : cs.dropLast.length + 1 = cs.length := by
      rw [List.length_dropLast]
      have := List.length_pos_iff.mpr hne
      omega
    have hs : dB (dkHas (dVar 0)) [.val .deck, .val (.int many), .val (.int (mx + c1 * (t + 1) * (t + 1))), .emp] ⟨some ⟨cs, mx, t + 1, false, false⟩, none⟩ = .ok true ⟨some ⟨cs, mx, t + 1, false, false⟩, none⟩ := hem ▸ ev_B (ev_has ev_var)
    have pw : ∀ s k, dOp powD (ep (.int 10)) (ep (.int 18)) s k = .ok (.int (10 ^ 18)) k := fun s k => ev_op ev_ep ev_ep rfl
    by_cases hc : (10 : Int) ^ 18 ≤ cell
    · have ge : dB (dOp geD (dVar 3) (dOp powD (ep (.int 10)) (ep (.int 18)))) [.val .deck, .val (.int many), .val (.int (mx + c1 * (t + 1) * (t + 1))), .val (.int cell)] ⟨some ⟨cs.dropLast, mx, t + 1, false, false⟩, none⟩ = .ok true ⟨some ⟨cs.dropLast, mx, t + 1, false, false⟩, none⟩ :=
        ev_B (ev_op (x := .int cell) ev_var (pw _ _) (show some (D.bl (decide ((10 : Int) ^ 18 ≤ cell))) = some (D.bl true) by rw [decide_eq_true hc]))
      exact ⟨_, _, ev_fn (es_ss st0 (es_ss st1 (es_ssR (es_ifT hs (es_ss (es_asg (ev_pop ev_var q)) (es_ssR (es_ifT ge (es_ss (es_app ev_var (ev_op ev_var ev_var (e_fdiv m0 (na_mono mb (by decide)))) (by rw [sizeLine_eq]; omega)) (es_ret (ev_op (ev_callB (ev_cons ev_var ev_nil) e_int) ev_var (e_mod m0)))))))))))
        , Int.emod_nonneg _ (Int.ne_of_gt m0), Int.emod_lt_of_pos _ m0, _, mx, t + 1, rfl, by omega, by omega, x0, x1, by rw [List.length_append]; simp only [List.length_cons, List.length_nil]; omega⟩
    · have ge : dB (dOp geD (dVar 3) (dOp powD (ep (.int 10)) (ep (.int 18)))) [.val .deck, .val (.int many), .val (.int (mx + c1 * (t + 1) * (t + 1))), .val (.int cell)] ⟨some ⟨cs.dropLast, mx, t + 1, false, false⟩, none⟩ = .ok false ⟨some ⟨cs.dropLast, mx, t + 1, false, false⟩, none⟩ :=
        ev_B (ev_op (x := .int cell) ev_var (pw _ _) (show some (D.bl (decide ((10 : Int) ^ 18 ≤ cell))) = some (D.bl false) by rw [decide_eq_false hc]))
      obtain ⟨r, k', e, r0, r1, ok'⟩ := tail (mx + c1 * (t + 1) * (t + 1) + cell) (.val (.int cell)) cs.dropLast (by omega)
      exact ⟨r, k', ev_fn (es_ss st0 (es_ss st1 (es_ss (es_ifT hs (es_ss (es_asg (ev_pop ev_var q)) (es_ss (es_ifF ge es_nx) (es_asg (ev_op ev_var (ev_callB (ev_cons ev_var ev_nil) e_int) e_add))))) e))), r0, r1, ok'⟩
end
end G
namespace G
open PySem PySem.Spec PyProof.Rows L2
section
variable {α : Type} {s s1 s2 st : List Sl} {k k1 k2 k3 : Sk} {ta tb tc to : ME D} {x y z d : D} {te : ME (List D)} {xs ys : List D} {body a b : MS} {r : RS} {c f m : Str} {fs : List (Str × D)} {g : Fn} {re : RE D}
/-! exceptions go on -/
/-! instances -/
/-! own lists, own dicts -/
theorem es_app' {i : Nat} (hi : s[i]? = some (.own (.lst xs))) (h : ta s k = .ok d k1) (hl : xs.length < sizeLine) : sGrow appF i ta s k = .nx (s.set i (.own (.lst (xs ++ [d])))) k1 := by
  unfold sGrow; rw [hi]
  dsimp only
  refine (sb_ok h).trans ?_
  unfold appF
  rw [if_pos hl]
theorem es_frz {i : Nat} (hi : s[i]? = some (.own d)) (h : a (s.set i (.val d)) k = r) : sFrz i a s k = r := by
  unfold sFrz frz; rw [hi]; exact h
theorem ev_pair0 : (ep [] : ME (List (D × D))) s k = .ok [] k := rfl
theorem ev_pair {tp : ME (List (D × D))} {ps : List (D × D)} (ha : ta s k = .ok x k1) (hb : tb s k1 = .ok y k2) (hp : tp s k2 = .ok ps k3) : dPair ta tb tp s k = .ok ((x, y) :: ps) k3 := by
  exact (eb_ok ha).trans ((eb_ok hb).trans ((eb_ok hp).trans rfl))
theorem ev_dict {tp : ME (List (D × D))} {ps : List (D × D)} (h : tp s k = .ok ps k1) (hd : dctOf ps = some z) : dDict tp s k = .ok z k1 := by
  refine (eb_ok h).trans ?_
  rw [a_eo, hd]; rfl
theorem ev_sOpt {i : Int} (h : ta s k = .ok (.int i) k1) : (eb ta fun d => eo (intOf d)) s k = .ok (some i) k1 := by
  rw [a_eb, h]; rfl
theorem ev_sNone : (ep none : ME (Option Int)) s k = .ok none k := rfl
/-! picks -/
def pickD (draw : Fn) : MS := sRet (dOp ixD (dVar 1) (dCall draw (dCons (dVar 0) (dCons (dCallB (one lenD) (dCons (dVar 1) dNil)) dNil))))
theorem pick_lst {bl dr : Bool} {draw : Fn} (hd : DrawOk bl dr draw) {α : Type} (l : List α) (f : α → D) {b : Nat} {k : Sk} (hne : l ≠ []) (hl : l.length ≤ 1000000) (ok : OkD bl dr (b + 1) k) : ∃ a k', fnDen 2 2 (pickD draw) [.deck, .lst (l.map f)] k = .ok (f a) k' ∧ a ∈ l ∧ OkD bl dr b k' := by
  have hp := List.length_pos_iff.mpr hne
  obtain ⟨r, k', h1, r0, r1, ok'⟩ := hd (l.length : Nat) b k (by omega) (by omega) ok
  obtain ⟨i, rfl⟩ := Int.eq_ofNat_of_zero_le r0
  have hi : i < l.length := by omega
  refine ⟨l[i], k', ev_fn (es_ret (ev_op ev_var (ev_call (ev_cons ev_var (ev_cons (ev_callB (ev_cons ev_var ev_nil) (show one lenD [.lst (l.map f)] = some (.int (l.length : Nat)) by show some (D.int (l.map f).length) = _; rw [List.length_map])) ev_nil)) h1) ?_)), List.getElem_mem hi, ok'⟩
  show L2.atI (l.map f) (i : Nat) = _
  rw [atI_nat (d := f l[i]) (by rw [List.length_map]; exact hi), List.getD_eq_getElem?_getD, List.getElem?_map, List.getElem?_eq_getElem hi]; rfl
/-! the deck made of the script -/
def deckA (c0 c1 : Int) : MS := ss (sPar 2 3 (dCons (dCallB (one lstsD) (dCons (dSlice (dVar 0) (ep none) (eb (ep (.int 63)) fun d => eo (intOf d))) dNil)) (dCons (ep (.int c0)) dNil)))
  (ss (sFor (dItems (dVar 2)) (mName 1) (sAsg (dOp modD (dCallB (one intD) (dCons (dOp addD (dOp addD (dOp mulsD (dVar 3) (ep (.int 39373))) (dOp modD (dCallB (one intD) (dCons (dVar 1) dNil)) (ep (.int 2147483629)))) (ep (.int c1))) dNil)) (ep (.int 2147483587))) (mName 3)))
  (sRet (dDict (dPair (ep (.str "cells")) (dUn revD (dVar 2)) (dPair (ep (.str "mixed")) (dVar 3) (dPair (ep (.str "turn")) (ep (.int 0)) (ep [])))))))
theorem deckA_ok {c0 c1 : Int} (h0 : 0 ≤ c0) (h1 : c0 < 2 ^ 31) {ns : List Int} (h : ns.length ≤ 63) : ∃ cs m, fnDen 1 4 (deckA c0 c1) [.scr ns] ⟨none, none⟩ = .ok (deckD false false cs m 0) ⟨none, none⟩ ∧ ∀ b, b ≤ 2 ^ 99 → OkD false false b ⟨some ⟨cs, m, 0, false, false⟩, none⟩ := by
  obtain ⟨cs, hcs, hlen⟩ : ∃ cs : List Int, G.cutD (ns.map D.int) none (some 63) = cs.map D.int ∧ cs.length ≤ 63 := by
    refine ⟨(ns.drop (HT.sIx (ns.map D.int).length 0 none)).take (HT.sIx (ns.map D.int).length (ns.map D.int).length (some 63) - HT.sIx (ns.map D.int).length 0 none), ?_, ?_⟩
    · unfold G.cutD
      rw [← List.map_drop, ← List.map_take]
    · refine Nat.le_trans (List.length_take_le' ..) (Nat.le_trans (List.length_drop ▸ Nat.sub_le _ _) h)
  obtain ⟨s', e1, a, m, m0, m1, rfl⟩ := loop_pu (g := mName 1) (body := sAsg (dOp modD (dCallB (one intD) (dCons (dOp addD (dOp addD (dOp mulsD (dVar 3) (ep (.int 39373))) (dOp modD (dCallB (one intD) (dCons (dVar 1) dNil)) (ep (.int 2147483629)))) (ep (.int c1))) dNil)) (ep (.int 2147483587))) (mName 3)) (k := ⟨none, none⟩) (f := D.int)
    (fun _ s => ∃ a m, (0 : Int) ≤ m ∧ m < 2 ^ 31 ∧ s = [.val (.scr ns), a, .val (.lst (cs.map D.int)), .val (.int m)]) cs (s := [.val (.scr ns), .emp, .val (.lst (cs.map D.int)), .val (.int c0)]) (fun pre x post s _ ⟨a, m, m0, m1, hs⟩ => by
      subst hs
      refine ⟨_, _, rfl, es_asg (ev_op (ev_callB (ev_cons (ev_op (ev_op (ev_op ev_var ev_ep (e_mul (na_mono (b := 250) (a := 31) (by omega) (by decide)) (by decide +kernel))) (ev_op (ev_callB (ev_cons ev_var ev_nil) e_int) ev_ep (e_mod (by decide))) e_add) ev_ep e_add) ev_nil) e_int) ev_ep (e_mod (by decide))), _, _, Int.emod_nonneg _ (by decide), Int.lt_trans (Int.emod_lt_of_pos _ (by decide)) (by decide), rfl⟩) ⟨_, c0, h0, h1, rfl⟩
  refine ⟨cs.reverse, m, ?_, fun b hb => ⟨_, _, _, rfl, by decide, by omega, m0, by omega, by rw [List.length_reverse]; omega⟩⟩
  refine ev_fn (es_ss (es_par (ev_cons (ev_callB (ev_cons (ev_slice ev_var ev_sNone (ev_sOpt ev_ep) (show sliceD (.scr ns) none (some 63) = some (.lst (cs.map D.int)) by show some (D.lst (cutD (ns.map D.int) none (some 63))) = _; rw [hcs])) ev_nil) rfl) (ev_cons ev_ep ev_nil)))
    (es_ss (es_for (ev_items ev_var rfl) e1) (es_ret (ev_dict (ev_pair ev_ep (ev_un ev_var rfl) (ev_pair ev_ep ev_var (ev_pair ev_ep ev_ep ev_pair0))) ?_))))
  unfold deckD
  rw [List.map_reverse]
  rfl
end
end G
namespace G
open PySem PySem.Spec PyProof.Rows L2
/-! ### plain: the worlds of the laws k05 .. k14 -/
def Sgs : List Str := ["01", "0", "012", "38"]
structure Wd where
  sg : Str
  n : Nat
  b : List Int
  ts : List (List (List Int))
  l : List Int
structure Wd.Ok (w : Wd) (top : Nat) : Prop where
  sg : w.sg ∈ Sgs
  n : w.n ≤ top
  b : w.b.length = w.n
  l : w.l.length = w.n
  tl : w.ts.length = w.sg.cps.toList.length
  t : ∀ t ∈ w.ts, ML.Sq w.n t
  bb : ML.Bd 4 w.b
  bl : ML.Bd 4 w.l
  bt : ∀ t ∈ w.ts, ML.BdT 4 t
def Wd.T (w : Wd) (c : Nat) : List (List Int) := ((w.sg.cps.toList.zip w.ts).lookup c).getD (ML.still w.n)
section
variable {w : Wd} {top : Nat}
def Wd.tbd (w : Wd) : D := .dct (mergeKD [] ((ZS.keysZ w.sg).zip (w.ts.map tT)))
theorem Wd.Ok.zip (h : w.Ok top) : dctZip [.str w.sg, .tup (w.ts.map tT)] = some w.tbd := by
  show (if w.sg.cps.toList.length = (w.ts.map tT).length then _ else _) = _
  rw [if_pos (by rw [List.length_map, h.tl])]; rfl
/-- what a digit stands for -/
structure DigOk (sg : Str) (ts : List (List (List Int))) (n : Nat) (c : Nat) : Prop where
  tb : ixA (Wd.tbd ⟨sg, n, [], ts, []⟩) (.str (sgn c)) = some (tT (Wd.T ⟨sg, n, [], ts, []⟩ c))
  ix : ∃ i, sindexD (.str sg) [.str (sgn c)] = some (.int i) ∧ ixD (.tup (ts.map tT)) (.int i) = some (tT (Wd.T ⟨sg, n, [], ts, []⟩ c))
  isin : inD false (.str (sgn c)) (.str sg) = some (.bl true)
def Wd.row (w : Wd) (z : Str) : List Int := ML.run w.T w.b z.cps.toList
end
end G
namespace G
open PySem PySem.Spec PyProof.Rows L2
/-- the tally of a world -/
def Wd.fs (w : Wd) : List (Str × D) := [("digits", .str w.sg), ("start", tI w.b), ("tables", .tup (w.ts.map tT)), ("ends", tI w.l), ("table_by_digit", w.tbd)]
end G
namespace G
open PySem PySem.Spec PyProof.Rows L2
theorem Pys.mono {B W W' k k' : Nat} {d : List D} {p : List PyData} (h : Pys B W k d p) (hw : W ≤ W') (hk : k ≤ k') : Pys B W' k' d p := ⟨h.e, h.sh, h.lv, Nat.le_trans h.w hw, Nat.le_trans h.dp hk, h.lay⟩
end G
namespace G
open PySem PySem.Spec PyProof.Rows L2
/-! ### plain: equality of data -/
/-! ### plain: texts put together -/
/-! ### plain: further big steps -/
end G
/-! enumerate(x) of a list, a tuple, a text -/
namespace G
open PySem PySem.Spec PyProof.Rows L2
/-! ### enumerate, at the level of data -/
end G
namespace G
open PySem PySem.Spec PyProof.Rows L2
/-! ### min, max of a list -/
end G
namespace G
open PySem PySem.Spec PyProof.Rows L2
section
variable {X : Cx} {W : WX} {re : TA} {te : ME (List D)} {pos : Pos}
def sPar3 (i j l : Nat) (te : ME (List D)) : MS := sb te fun ds => fun s k => match ds with
  | [x, y, z] => .nx (((s.set i (.val x)).set j (.val y)).set l (.val z)) k
  | _ => .no
theorem us_par3 {i j l : Nat} {x y z : Str} {ea eb' ec : Expr} {px py pz pt : Pos} {kt k2 : Nat} {pt2 : Pos} (hc : X.calm = true) (hN : X.N.Nodup) (h : UA X W re te [ea, eb', ec]) (hi : X.N[i]? = some x := by rfl) (hj : X.N[j]? = some y := by rfl) (hl : X.N[l]? = some z := by rfl) (hij : i ≠ j := by decide) (hil : i ≠ l := by decide) (hjl : j ≠ l := by decide)
    (hx : X.env.scope.names.lookup x = some .local := by rfl) (hy : X.env.scope.names.lookup y = some .local := by rfl) (hz : X.env.scope.names.lookup z = some .local := by rfl)
    (hw : swappedStores [.Tuple [.Name x px, .Name y py, .Name z pz] kt pt] (.Tuple [ea, eb', ec] k2 pt2) X.env = pure (some [x, y, z]) := by rfl)
    (hs : swapsWithSole [.Tuple [.Name x px, .Name y py, .Name z pz] kt pt] (.Tuple [ea, eb', ec] k2 pt2) pos.line X.env = pure false := by rfl) :
    US X W (tPar3 i j l re) (sPar3 i j l te) (.Assign [.Tuple [.Name x px, .Name y py, .Name z pz] kt pt] (.Tuple [ea, eb', ec] k2 pt2) pos) := by
  refine ⟨ps_par3 hc hN hi hj hl hij hil hjl hx hy hz h.pa hw hs, fun ad H0 F0 k0 σ H F s k E rel p => h.sn.sbind rel p fun v d H1 F1 k1 _ q1 x1 d1 p1 => ?_⟩
  cases d1 with
  | nil => exact False.elim p1
  | cons h1 r1 =>
    cases r1 with
    | nil => exact False.elim p1
    | cons h2 r2 =>
      cases r2 with
      | nil => exact False.elim p1
      | cons h3 r3 =>
        cases r3 with
        | cons _ _ => exact False.elim p1
        | nil => exact ⟨_, _, _, rfl, p1 _ H1 F1 (((q1.set i h1).set j h2).set l h3) (Same.refl _)⟩
end
end G
namespace G
open PySem PySem.Spec PyProof.Rows L2
section
variable {s s1 : List Sl} {k k1 k2 k3 : Sk} {x y z d : D} {xs ys : List D} {ta tb : ME D} {te : ME (List D)} {c f : Str} {fs : List (Str × D)} {g : Fn}
/-! more rules -/
theorem es_par3 {i j l : Nat} (h : te s k = .ok [x, y, z] k1) : sPar3 i j l te s k = .nx (((s.set i (.val x)).set j (.val y)).set l (.val z)) k1 := by
  exact (sb_ok h).trans rfl
end
end G
namespace G
open PySem PySem.Spec PyProof.Rows L2
section
variable {X : Cx} {W : WX} {a b : Expr} {ra rb : TE} {ta tb : ME D} {pos : Pos}
/-! ### text.split(text) -/
/-! ### int(text) -/
/-! ### x in a tuple of flat items -/
/-! ### f-strings -/
/-- the parts of an f-string -/
inductive UJ (X : Cx) (W : WX) : List Expr → List TE → List (ME D) → Prop where
  | nil : UJ X W [] [] []
  | cons {e : Expr} {t : TE} {td : ME D} {es : List Expr} {ts : List TE} {tds : List (ME D)} (h : UE X W t td e) (r : UJ X W es ts tds) : UJ X W (e :: es) (t :: ts) (td :: tds)
def catD (acc : Str) : D → Option Str
  | .str y => if (acc ++ y).length ≤ sizeLine then some (acc ++ y) else none
  | _ => none
def dJs : List (ME D) → Str → ME Str
  | [], acc => ep acc
  | t :: ts, acc => eb (eb t fun d => eo (catD acc d)) fun z => dJs ts z
abbrev RStr : Ad → Hp → Str → Str → Prop := fun _ _ v d => v = d
theorem UJ.sn {es : List Expr} {ts : List TE} {tds : List (ME D)} (h : UJ X W es ts tds) : ∀ acc : Str, Sn X.K (clOf X.mg) W RStr (tJs ts acc) (dJs tds acc) := by
  induction h with
  | nil => exact fun acc ad σ H F s k Q rel p => p.ok0 rel rfl
  | @cons e t td es ts tds h r ih =>
    intro acc ad σ H F s k Q rel p
    have p : Post X.K (clOf X.mg) W RStr ad σ H F s k (eb td (fun d => eb (eo (catD acc d)) fun z => dJs tds z) s k) Q := by
      have e1 : eb (eb td fun d => eo (catD acc d)) (fun z => dJs tds z) s k = eb td (fun d => eb (eo (catD acc d)) fun z => dJs tds z) s k := by
        unfold eb
        cases td s k <;> rfl
      rw [← e1]; exact p
    refine h.sn.bind rel p fun x d H1 F1 k1 _ r1 x1 d1 p1 => ?_
    unfold eb at p1
    cases hc : catD acc d with
    | none => rw [hc] at p1; exact False.elim p1
    | some z =>
      rw [hc] at p1
      cases d1 with
      | str y =>
        have hc : (if (acc ++ y).length ≤ sizeLine then some (acc ++ y) else none) = some z := hc
        by_cases hl : (acc ++ y).length ≤ sizeLine
        · rw [if_pos hl] at hc
          cases hc
          exact ⟨y, rfl, hl, ih (acc ++ y) ad σ H1 F1 s k1 Q r1 p1⟩
        · rw [if_neg hl] at hc; cases hc
      | _ => cases hc
end
end G
namespace G
open PySem PySem.Spec PyProof.Rows L2 ClX
/-! classmethods: C.m(..), cls(..) -/
end G
namespace G
open PySem PySem.Spec PyProof.Rows L2
/-! ### str(text) -/
/-! ### the law's def, its first statement any one that lays the deck beside own empty lists -/
end G
namespace G
open PySem PySem.Spec PyProof.Rows L2
/-! ### plain: ints as texts -/
def iS (i : Int) : Str := Str.ofString (toString i)
theorem iS_nat (n : Nat) : (iS (n : Int)).cps.toList = TL.numL n := TL.tl_num n
theorem iS_neg (m : Nat) : (iS (Int.negSucc m)).cps.toList = 45 :: TL.numL (m + 1) := by
  have e2 : (toString (m + 1)).toList.map Char.toNat = TL.numL (m + 1) := by
    have := TL.tl_num (m + 1)
    rw [TL.tl_ofString] at this
    exact this
  unfold iS
  rw [signs_ofString]
  have e : toString (Int.negSucc m) = "-" ++ toString (m + 1) := rfl
  rw [e, String.toList_append, List.map_append, e2]; rfl
/-- the digits of an int's text, and whether a sign stands ahead -/
theorem iS_shape (i : Int) : (∃ n : Nat, i = (n : Int) ∧ (iS i).cps.toList = TL.numL n) ∨ ∃ m : Nat, i = Int.negSucc m ∧ (iS i).cps.toList = 45 :: TL.numL (m + 1) := by
  cases i with
  | ofNat n => exact .inl ⟨n, rfl, iS_nat n⟩
  | negSucc m => exact .inr ⟨m, rfl, iS_neg m⟩
theorem iS_sign (i : Int) : ∀ c ∈ (iS i).cps.toList, c = 45 ∨ 48 ≤ c ∧ c ≤ 57 := fun c hc => by
  rcases iS_shape i with ⟨n, _, e⟩ | ⟨m, _, e⟩
  · rw [e] at hc; exact .inr (TL.numL_digits n c hc)
  · rw [e] at hc
    rcases List.mem_cons.mp hc with h | h
    · exact .inl h
    · exact .inr (TL.numL_digits _ c h)
theorem iS_len {i : Int} {k : Nat} (hk : 0 < k) (h : i.natAbs < 10 ^ k) : (iS i).length ≤ k + 1 := by
  show (iS i).cps.toList.length ≤ k + 1
  rcases iS_shape i with ⟨n, hi, e⟩ | ⟨m, hi, e⟩
  · rw [e]
    have := TL.numL_len (n := n) hk (by rw [hi] at h; exact h)
    omega
  · rw [e, List.length_cons]
    have := TL.numL_len (n := m + 1) hk (by rw [hi] at h; exact h)
    omega
end G
namespace G
open PySem PySem.Spec PyProof.Rows L2
/-! ### plain: more on texts, slices, enumerations -/
end G
namespace G
open PySem PySem.Spec PyProof.Rows L2
end G
namespace G
open PySem PySem.Spec PyProof.Rows L2
end G
namespace G
open PySem PySem.Spec PyProof.Rows L2
/-! ### bools among ints -/
section
variable {X : Cx} {W : WX} {a b : Expr} {ra rb : TE} {ta tb : ME D} {pos : Pos}
/-! ### t == (), l == [] -/
def rEq0 (K : PySem.W.Frag) (neg : Bool) : R2 := fun x y H Q => ∃ a b xs, x = .ref a ∧ y = .ref b ∧ ((SqT K H a xs ∧ SqT K H b []) ∨ (SqL K H a xs ∧ SqL K H b [])) ∧ Q (.bl (neg ^^ xs.isEmpty)) H
def eq0D (neg : Bool) : D → D → Option D
  | .tup xs, .tup [] => some (.bl (neg ^^ xs.isEmpty))
  | .lst xs, .lst [] => some (.bl (neg ^^ xs.isEmpty))
  | _, _ => none
theorem isl {h : Heap} {a : Addr} {its : Array Value} (t : PlainL h a its) : h.IsList a its := let ⟨o, n, h1, h2, _, h3⟩ := t; ⟨o, h1, h2, n, h3⟩
theorem isE {xs : List V} {its : List Value} (rv : Vals xs its) : ((List.range (min its.toArray.size ([] : List Value).toArray.size)).all (fun _ => true) && its.toArray.size == ([] : List Value).toArray.size) = xs.isEmpty := by
  cases rv with
  | nil => rfl
  | cons h1 h2 => simp
theorem op_ne0 {X : Cx} (hu : X.A.units < cLine) : OpR X (compareOp .NotEq) (rEq0 X.K true) := by
  intro pins s σ H x y v u Q I rx ry h
  obtain ⟨a, b, xs, rfl, rfl, h12, q⟩ := h
  cases rx
  cases ry
  rcases h12 with ⟨h1, h2⟩ | ⟨h1, h2⟩
  · obtain ⟨its, rv, t1, _⟩ := I.tuple h1
    obtain ⟨jts, rw_, t2, _⟩ := I.tuple h2
    cases rw_
    refine PySem.SeqAt.RcNeAt.tuples (e := fun _ => true) t1 t2 hu (fun j h1 h2 => absurd h2 (by simp)) X.prog X.w _ _ ?_
    rw [isE rv]
    exact ⟨.bl (!xs.isEmpty), H, I, rfl, by simpa using q⟩
  · obtain ⟨its, rv, t1, _⟩ := I.list h1
    obtain ⟨jts, rw_, t2, _⟩ := I.list h2
    cases rw_
    cases rv with
    | nil =>
      refine PySem.SeqAt.RcNeAt.lists (e := fun _ => true) (isl t1) (isl t2) rfl hu (fun j h1 h2 => absurd h2 (by simp)) X.prog X.w _ _ ?_
      exact ⟨.bl false, H, I, rfl, by simpa using q⟩
    | cons r1 r2 =>
      refine PySem.SeqAt.RcNeAt.lists_lengths (isl t1) (isl t2) (by simp) hu X.prog X.w _ _ ?_
      exact ⟨.bl true, H, I, rfl, by simpa using q⟩
theorem isE_den {K : PySem.W.Frag} {cl : Cl} {ad : Ad} {F : Hp} : ∀ {l : List V} {m : List D}, DenA K cl ad F l m → l.isEmpty = m.isEmpty
  | _, _, .nil => rfl
  | _, _, .cons _ _ => rfl
theorem sn_eq0 {K : PySem.W.Frag} {cl : Cl} {neg : Bool} : OpSn K cl (rEq0 K neg) (eq0D neg) := by
  intro ad F H x y d e z Q sub hx hy hz q
  unfold eq0D at hz
  split at hz
  · cases hz
    cases hx with
    | tup h1 a1 =>
      rename_i a vs
      cases hy with
      | tup h2 a2 =>
        rename_i b ws
        cases a2
        refine ⟨a, b, vs, rfl, rfl, .inl ⟨tup_same sub h1, tup_same sub h2⟩, ?_⟩
        rw [isE_den a1]
        exact q _ H F (New.refl sub) (.bl _)
  · cases hz
    cases hx with
    | lst h1 a1 =>
      rename_i a vs
      cases hy with
      | lst h2 a2 =>
        rename_i b ws
        cases a2
        refine ⟨a, b, vs, rfl, rfl, .inr ⟨.of (sub _ _ h1), .of (sub _ _ h2)⟩, ?_⟩
        rw [isE_den a1]
        exact q _ H F (New.refl sub) (.bl _)
  · cases hz
end
/-! ### repr of lists and dicts in any mix: sys.modules stands in the base -/
def reprPA (p : PyData) : Bool := p.showable && decide (p.shown.length ≤ sizeLine) && decide (p.depth ≤ 60)
def reprAD (d : D) : Option D := match toPy d with
  | some p => chk (reprPA p) (.str p.shown)
  | none => none
def rReprA (K : PySem.W.Frag) (cl : Cl) : List V → Hp → VK → Prop := fun xs H Q => ∃ ad F x d p, xs = [x] ∧ Same F H ∧ Den K cl ad F x d ∧ toPy d = some p ∧ reprPA p = true ∧ Q (.str p.shown) H
theorem call_reprA {X : Cx} (sys : SysAt X) (gd : X.A.guards = some []) (un : X.A.units + 200 < cLine) : CallR X (.builtin "repr") (rReprA X.K (clOf X.mg)) := by
  intro pins s σ H xs us Q I r h
  obtain ⟨ad, F, x, d, p, rfl, sub, hd, ep, c, q⟩ := h
  obtain ⟨u, rfl, rx⟩ := vals1 r
  obtain ⟨as, rd, cs⟩ := hd.reads I sub rx ep
  unfold reprPA at c
  simp only [Bool.and_eq_true, decide_eq_true_eq] at c
  obtain ⟨⟨c1, c2⟩, c3⟩ := c
  have hsm : p.hasDict = true → sysModules ∉ as := fun z => cs (.inl sys)
  have fin : ∀ h' u' tk, (∀ b o, s.heap.get? b = some o → h'.get? b = some o) → EP X pins σ Q (.str p.shown u') { s with heap := h', toks := tk } := fun h' u' tk kp => ⟨.str p.shown, H, I.kept kp, ⟨_, rfl⟩, q⟩
  cases rd with
  | none => exact PySem.P.repr_of_none (fin s.heap _ _ fun _ _ e => e)
  | bool b => exact PySem.P.repr_of_bool (fin s.heap _ _ fun _ _ e => e)
  | int i t => exact PySem.P.repr_of_int (of_decide_eq_true c1) (fin s.heap _ _ fun _ _ e => e)
  | str y t => exact PySem.P.repr_of_str (fin s.heap _ _ fun _ _ e => e) c2
  | list h1 h2 h3 h4 => exact repr_of_reads' (.list h1 h2 h3 h4) c1 hsm gd (by omega) (fun _ _ e => e) fin c2
  | tuple h1 h2 h3 h4 => exact repr_of_reads' (.tuple h1 h2 h3 h4) c1 hsm gd (by omega) (fun _ _ e => e) fin c2
  | dict h1 h2 h3 h4 h5 => exact repr_of_reads' (.dict h1 h2 h3 h4 h5) c1 hsm gd (by omega) (fun _ _ e => e) fin c2
theorem sn_reprA {K : PySem.W.Frag} {cl : Cl} : CallSn K cl (rReprA K cl) (one reprAD) := call1 one_of fun ad F H x d z Q sub hx hz q => by
  unfold reprAD at hz
  cases e : toPy d with
  | none => rw [e] at hz; cases hz
  | some p =>
    rw [e] at hz
    obtain ⟨c, rfl⟩ := chk_some hz
    exact ⟨ad, F, x, d, p, rfl, sub, hx, e, c, q _ H F (New.refl sub) (.str _)⟩
end G
namespace G
open PySem PySem.Spec PyProof.Rows L2
/-! ### plain: values of any kind, their weight and depth -/
mutual
def wD : D → Nat
  | .int i => i.natAbs.log2 + 2
  | .str z => z.length + 1
  | .tup xs => wDs xs + 1
  | .lst xs => wDs xs + 1
  | _ => 1
def wDs : List D → Nat
  | [] => 0
  | x :: xs => wD x + wDs xs
end
mutual
def hD : D → Nat
  | .tup xs => hDs xs + 1
  | .lst xs => hDs xs + 1
  | .dct _ => 1
  | _ => 0
def hDs : List D → Nat
  | [] => 0
  | x :: xs => max (hD x) (hDs xs)
end
mutual
def vD : D → Bool
  | .non => true
  | .bl _ => true
  | .int _ => true
  | .str z => z.cps.toList.all fun c => decide (c < 0x110000)
  | .tup xs => vDs xs
  | .lst xs => vDs xs
  | .dct kvs => kvs.isEmpty
  | _ => false
def vDs : List D → Bool
  | [] => true
  | x :: xs => vD x && vDs xs
end
theorem wD_tup (xs : List D) : wD (.tup xs) = wDs xs + 1 := by rw [wD]
theorem wD_lst (xs : List D) : wD (.lst xs) = wDs xs + 1 := by rw [wD]
theorem wD_int (i : Int) : wD (.int i) = i.natAbs.log2 + 2 := by rw [wD]
theorem wD_str (z : Str) : wD (.str z) = z.length + 1 := by rw [wD]
theorem wD_bl (b : Bool) : wD (.bl b) = 1 := by rw [wD] <;> exact fun _ => nofun
theorem hD_tup (xs : List D) : hD (.tup xs) = hDs xs + 1 := by rw [hD]
theorem hD_lst (xs : List D) : hD (.lst xs) = hDs xs + 1 := by rw [hD]
theorem vD_tup (xs : List D) : vD (.tup xs) = vDs xs := by rw [vD]
theorem vD_lst (xs : List D) : vD (.lst xs) = vDs xs := by rw [vD]
theorem wDs_cons (x : D) (xs : List D) : wDs (x :: xs) = wD x + wDs xs := by rw [wDs]
theorem hDs_cons (x : D) (xs : List D) : hDs (x :: xs) = max (hD x) (hDs xs) := by rw [hDs]
theorem vDs_cons (x : D) (xs : List D) : vDs (x :: xs) = (vD x && vDs xs) := by rw [vDs]
theorem wDs_nil : wDs [] = 0 := by rw [wDs]
theorem hDs_nil : hDs [] = 0 := by rw [hDs]
theorem vDs_nil : vDs [] = true := by rw [vDs]
theorem wD_pos (d : D) : 1 ≤ wD d := by
  cases d <;> (rw [wD] <;> first | omega | exact nofun | (intros; simp))
theorem wDs_app : ∀ xs ys : List D, wDs (xs ++ ys) = wDs xs + wDs ys
  | [], ys => by rw [wDs_nil, List.nil_append, Nat.zero_add]
  | x :: xs, ys => by rw [List.cons_append, wDs_cons, wDs_cons, wDs_app xs ys, Nat.add_assoc]
theorem vDs_app : ∀ xs ys : List D, vDs (xs ++ ys) = (vDs xs && vDs ys)
  | [], ys => by rw [vDs_nil, List.nil_append, Bool.true_and]
  | x :: xs, ys => by rw [List.cons_append, vDs_cons, vDs_cons, vDs_app xs ys, Bool.and_assoc]
theorem hDs_app : ∀ xs ys : List D, hDs (xs ++ ys) = max (hDs xs) (hDs ys)
  | [], ys => by rw [hDs_nil, List.nil_append, Nat.zero_max]
  | x :: xs, ys => by rw [List.cons_append, hDs_cons, hDs_cons, hDs_app xs ys, Nat.max_assoc]
theorem vDs_mem {xs : List D} (h : vDs xs = true) : ∀ x ∈ xs, vD x = true := by
  induction xs with
  | nil => exact fun _ h => absurd h List.not_mem_nil
  | cons y xs ih =>
    rw [vDs_cons, Bool.and_eq_true] at h
    intro x hx
    rcases List.mem_cons.mp hx with rfl | hx
    · exact h.1
    · exact ih h.2 x hx
theorem wDs_mem {xs : List D} : ∀ x ∈ xs, wD x ≤ wDs xs := by
  induction xs with
  | nil => exact fun _ h => absurd h List.not_mem_nil
  | cons y xs ih =>
    rw [wDs_cons]
    intro x hx
    rcases List.mem_cons.mp hx with rfl | hx
    · exact Nat.le_add_right _ _
    · exact Nat.le_trans (ih x hx) (Nat.le_add_left _ _)
theorem hDs_mem {xs : List D} : ∀ x ∈ xs, hD x ≤ hDs xs := by
  induction xs with
  | nil => exact fun _ h => absurd h List.not_mem_nil
  | cons y xs ih =>
    rw [hDs_cons]
    intro x hx
    rcases List.mem_cons.mp hx with rfl | hx
    · exact Nat.le_max_left _ _
    · exact Nat.le_trans (ih x hx) (Nat.le_max_right _ _)
theorem len_wDs : ∀ xs : List D, xs.length ≤ wDs xs
  | [] => Nat.zero_le _
  | x :: xs => by
    rw [wDs_cons, List.length_cons]
    have := len_wDs xs
    have := wD_pos x
    omega
/-- a value: made of what can be shown, of weight w, depth h -/
structure Va (w h : Nat) (d : D) : Prop where
  v : vD d = true
  w : wD d ≤ w
  h : hD d ≤ h
structure Vas (w h : Nat) (ds : List D) : Prop where
  v : vDs ds = true
  w : wDs ds ≤ w
  h : hDs ds ≤ h
theorem Va.mono {w h w' h' : Nat} {d : D} (a : Va w h d) (hw : w ≤ w') (hh : h ≤ h') : Va w' h' d := ⟨a.v, Nat.le_trans a.w hw, Nat.le_trans a.h hh⟩
theorem Vas.mono {w h w' h' : Nat} {d : List D} (a : Vas w h d) (hw : w ≤ w') (hh : h ≤ h') : Vas w' h' d := ⟨a.v, Nat.le_trans a.w hw, Nat.le_trans a.h hh⟩
theorem Vas.nil {h : Nat} : Vas 0 h [] := ⟨vDs_nil, by rw [wDs_nil]; exact Nat.le_refl _, by rw [hDs_nil]; exact Nat.zero_le _⟩
theorem Vas.cons {w w' h : Nat} {d : D} {ds : List D} (a : Va w h d) (b : Vas w' h ds) : Vas (w + w') h (d :: ds) :=
  ⟨by rw [vDs_cons, a.v, b.v]; rfl, by rw [wDs_cons]; exact Nat.add_le_add a.w b.w, by rw [hDs_cons]; exact Nat.max_le.mpr ⟨a.h, b.h⟩⟩
theorem Vas.app {w w' h : Nat} {d : List D} {ds : List D} (a : Vas w h d) (b : Vas w' h ds) : Vas (w + w') h (d ++ ds) :=
  ⟨by rw [vDs_app, a.v, b.v]; rfl, by rw [wDs_app]; exact Nat.add_le_add a.w b.w, by rw [hDs_app]; exact Nat.max_le.mpr ⟨a.h, b.h⟩⟩
theorem Vas.mem {w h : Nat} {ds : List D} (a : Vas w h ds) {d : D} (m : d ∈ ds) : Va w h d := ⟨vDs_mem a.v d m, Nat.le_trans (wDs_mem d m) a.w, Nat.le_trans (hDs_mem d m) a.h⟩
theorem Vas.one {w h : Nat} {d : D} (a : Va w h d) : Vas w h [d] := Vas.cons (w' := 0) a .nil
theorem Vas.len {w h : Nat} {ds : List D} (a : Vas w h ds) : ds.length ≤ w := Nat.le_trans (len_wDs ds) a.w
theorem Vas.split {w h : Nat} {xs ys : List D} (a : Vas w h (xs ++ ys)) : Vas (wDs xs) h xs ∧ Vas (wDs ys) h ys ∧ wDs xs + wDs ys ≤ w := by
  have v := a.v
  have hh := a.h
  rw [vDs_app, Bool.and_eq_true] at v
  rw [hDs_app, Nat.max_le] at hh
  exact ⟨⟨v.1, Nat.le_refl _, hh.1⟩, ⟨v.2, Nat.le_refl _, hh.2⟩, by rw [← wDs_app]; exact a.w⟩
theorem Vas.take {w h : Nat} {xs : List D} (a : Vas w h xs) (n : Nat) : Vas w h (xs.take n) := by
  have := Vas.split (xs := xs.take n) (ys := xs.drop n) (by rw [List.take_append_drop]; exact a)
  exact this.1.mono (by omega) (Nat.le_refl _)
theorem Vas.drop {w h : Nat} {xs : List D} (a : Vas w h xs) (n : Nat) : Vas w h (xs.drop n) := by
  have := Vas.split (xs := xs.take n) (ys := xs.drop n) (by rw [List.take_append_drop]; exact a)
  exact this.2.1.mono (by omega) (Nat.le_refl _)
theorem Va.tup {w h : Nat} {ds : List D} (a : Vas w h ds) : Va (w + 1) (h + 1) (.tup ds) := ⟨by rw [vD_tup]; exact a.v, by rw [wD_tup]; exact Nat.succ_le_succ a.w, by rw [hD_tup]; exact Nat.succ_le_succ a.h⟩
theorem Va.lst {w h : Nat} {ds : List D} (a : Vas w h ds) : Va (w + 1) (h + 1) (.lst ds) := ⟨by rw [vD_lst]; exact a.v, by rw [wD_lst]; exact Nat.succ_le_succ a.w, by rw [hD_lst]; exact Nat.succ_le_succ a.h⟩
theorem Va.un {w h : Nat} {ds : List D} (a : Va w h (.tup ds)) : ∃ w' h', w = w' + 1 ∧ h = h' + 1 ∧ Vas w' h' ds := by
  have v := a.v
  have hw := a.w
  have hh := a.h
  rw [vD_tup] at v
  rw [wD_tup] at hw
  rw [hD_tup] at hh
  exact ⟨w - 1, h - 1, by omega, by omega, v, by omega, by omega⟩
theorem Va.non {w h : Nat} (hw : 1 ≤ w) : Va w h .non := ⟨by rw [vD], by rw [wD] <;> first | exact hw | exact nofun, by rw [hD] <;> first | exact Nat.zero_le _ | exact nofun⟩
theorem Va.bl {w h : Nat} {b : Bool} (hw : 1 ≤ w) : Va w h (.bl b) := ⟨by rw [vD], by rw [wD_bl]; exact hw, by rw [hD] <;> first | exact Nat.zero_le _ | (intro _ h; cases h)⟩
theorem Va.dct {w h : Nat} (hw : 1 ≤ w) (hh : 1 ≤ h) : Va w h (.dct []) := ⟨by rw [vD]; rfl, by rw [wD] <;> first | exact hw | exact nofun, by rw [hD]; exact hh⟩
theorem Va.int {w h : Nat} {i : Int} (hw : i.natAbs.log2 + 2 ≤ w) : Va w h (.int i) := ⟨by rw [vD], by rw [wD_int]; exact hw, by rw [hD] <;> first | exact Nat.zero_le _ | (intro _ h; cases h)⟩
theorem Va.str {w h : Nat} {z : Str} (hz : ∀ c ∈ z.cps.toList, c < 0x110000) (hw : z.length + 1 ≤ w) : Va w h (.str z) :=
  ⟨by rw [vD, List.all_eq_true]; exact fun c hc => decide_eq_true (hz c hc), by rw [wD_str]; exact hw, by rw [hD] <;> first | exact Nat.zero_le _ | (intro _ h; cases h)⟩
/-! shown -/
theorem lt_pow_log2 (n : Nat) : n < 2 ^ (n.log2 + 1) := Nat.lt_log2_self
def shownD (d : D) : Str := match toPy d with
  | some p => p.shown
  | none => ""
/-! types -/
end G
namespace G
open PySem PySem.Spec PyProof.Rows L2
/-! ### plain: more rules for any values -/
section
variable {s s1 : List Sl} {k k1 k2 k3 : Sk} {x y z w d : D} {xs ys : List D} {ta tb tc : ME D} {te : ME (List D)}
/-- a comprehension over any data, with or without a test -/
theorem dLc_F {ti : ME (List D)} {g : MG} {tt : ME Bool} {te : ME D} {vs : List Nat} {ds : List D} (t : D → Bool) (e : D → D) (s1 : D → List Sl) (hti : ti s k = .ok ds k) (hn : ds.length ≤ sizeLine) (hg : ∀ d ∈ ds, g d (wipeS s vs) = some (s1 d)) (ht : ∀ d ∈ ds, tt (s1 d) k = .ok (t d) k) (he : ∀ d ∈ ds, t d = true → te (s1 d) k = .ok (e d) k) : dLc ti g tt te vs s k = .ok (.lst ((ds.filter t).map e)) k := by
  unfold dLc
  simp only [eb, hti]
  rw [lcL_pure (s1 := s1) (t := t) (e := e) (by omega) hg ht he]
end
/-! ### digits -/
end G
namespace G
open PySem PySem.Spec PyProof.Rows L2
/-! ### looking at an own list or dict without letting it go -/
end G
namespace G
open PySem PySem.Spec PyProof.Rows L2
end G
/-! the set of a list of ints: its table can be walked (the library has this of tuples alone) -/
namespace G
open PySem PySem.Spec PyProof.Rows L2
/-! ### sorted ints, sorted(set(ints)) -/
end G
namespace G
open PySem PySem.Spec PyProof.Rows L2
end G
namespace G
open PySem PySem.Spec PyProof.Rows L2
end G
/-! plain mathematics of tables: blocks, products of tables, transposes -/
namespace ML
/-! exchanged -/
def tr (a : List (List Int)) : List (List Int) := (List.range a.length).map fun j => col a j
end ML
/-! plain mathematics: products of rows and tables, place by place -/
namespace G
open PySem PySem.Spec PyProof.Rows L2
/-! ### plain: tallies of any size -/
structure DigS (sg : Str) : Prop where
  dig : ∀ (ts : List (List (List Int))) (n c : Nat), ts.length = sg.cps.toList.length → c ∈ sg.cps.toList → DigOk sg ts n c
  ne : sg.cps.toList ≠ []
  len : sg.length ≤ 10
  low : ∀ c ∈ sg.cps.toList, c < 128
structure Wd.Fit (w : Wd) (N B : Nat) : Prop where
  dg : DigS w.sg
  n : w.n ≤ N
  b : w.b.length = w.n
  l : w.l.length = w.n
  tl : w.ts.length = w.sg.cps.toList.length
  t : ∀ t ∈ w.ts, ML.Sq w.n t
  bb : ML.Bd B w.b
  bl : ML.Bd B w.l
  bt : ∀ t ∈ w.ts, ML.BdT B t
  hN : N ≤ 32
  hB : 1 ≤ B ∧ B ≤ 1000
section
variable {w : Wd} {N B top : Nat}
theorem Wd.Fit.zip (h : w.Fit N B) : dctZip [.str w.sg, .tup (w.ts.map tT)] = some w.tbd := by
  show (if w.sg.cps.toList.length = (w.ts.map tT).length then _ else _) = _
  rw [if_pos (by rw [List.length_map, h.tl])]; rfl
end
end G
namespace G
open PySem PySem.Spec PyProof.Rows L2
theorem Wd.Fit.mono {w : Wd} {N M B C : Nat} (h : w.Fit N B) (hN : N ≤ M) (hB : B ≤ C) (h1 : M ≤ 32) (h2 : C ≤ 1000) : w.Fit M C :=
  ⟨h.dg, Nat.le_trans h.n hN, h.b, h.l, h.tl, h.t, h.bb.mono hB, h.bl.mono hB, fun t ht r hr => (h.bt t ht r hr).mono hB, h1, ⟨Nat.le_trans h.hB.1 hB, h2⟩⟩
end G
namespace G
open PySem PySem.Spec PyProof.Rows L2
/-! a ticket alone -/
/-! nought -/
end G
namespace G
open PySem PySem.Spec PyProof.Rows L2
/-! ### plain: lists of small numbers, what is reached -/
def dN (i : Nat) : D := .int (i : Nat)
/-! a filtered comprehension over a list -/
/-! what is reached -/
inductive Rch (n : Nat) (R : Nat → Nat → Bool) (S : List Nat) : Nat → Prop
  | base {v : Nat} : v ∈ S → Rch n R S v
  | step {u v : Nat} : Rch n R S u → v < n → R u v = true → Rch n R S v
theorem Rch.all {n : Nat} {R : Nat → Nat → Bool} {S : List Nat} {P : Nat → Prop} {v : Nat} (h : Rch n R S v) (hS : ∀ v ∈ S, P v) (hc : ∀ u v, P u → v < n → R u v = true → P v) : P v := by
  induction h with
  | base h => exact hS _ h
  | step _ l e ih => exact hc _ _ ih l e
theorem nodup_le : ∀ {n : Nat} {l : List Nat}, l.Nodup → (∀ v ∈ l, v < n) → l.length ≤ n
  | 0, l, _, hb => by
    cases l with
    | nil => exact Nat.le_refl _
    | cons a l => exact absurd (hb a (List.mem_cons_self ..)) (Nat.not_lt_zero _)
  | n + 1, l, nd, hb => by
    have h := nodup_le (n := n) (l := l.erase n) (nd.erase n) (fun v hv => by
      have h1 := (List.Nodup.mem_erase_iff nd).mp hv
      have := hb v h1.2
      omega)
    by_cases q : n ∈ l
    · rw [List.length_erase_of_mem q] at h; omega
    · rw [List.erase_of_not_mem q] at h; omega
/-- n rounds suffice: a list that grows by a new number in every round, as long as something is missing -/
theorem full_step {n : Nat} {R : Nat → Nat → Bool} {S h h' : List Nat} {r : Nat} (hS : ∀ v ∈ S, v ∈ h) (hx : ∃ m, h' = h ++ m) (hn : h'.Nodup) (hc : ∀ u ∈ h, ∀ v, v < n → R u v = true → v ∈ h') (q : (∀ v, Rch n R S v → v ∈ h) ∨ r + 1 ≤ h.length) : (∀ v, Rch n R S v → v ∈ h') ∨ r + 2 ≤ h'.length := by
  obtain ⟨m, rfl⟩ := hx
  rcases q with q | q
  · exact .inl fun v hv => List.mem_append_left _ (q v hv)
  · by_cases e : m = []
    · subst e
      rw [List.append_nil] at hc ⊢
      exact .inl fun v hv => hv.all hS fun u v hu hl hr => hc u hu v hl hr
    · refine .inr ?_
      rw [List.length_append]
      have := List.length_pos_iff.mpr e
      omega
end G
namespace G
open PySem PySem.Spec PyProof.Rows L2
/-! rules -/
end G
namespace G
open PySem PySem.Spec PyProof.Rows L2
/-! ### plain: rounds over the edges, ahead and back -/
theorem Rch.lt {n : Nat} {R : Nat → Nat → Bool} {S : List Nat} {v : Nat} (h : Rch n R S v) (hS : ∀ v ∈ S, v < n) : v < n := h.all hS fun _ _ _ hl _ => hl
/-- one direction of a round: what is found so far, P the edges looked at -/
structure Half (n : Nat) (R : Nat → Nat → Bool) (S h0 h : List Nat) (P : Nat → Nat → Prop) : Prop where
  x : ∃ m, h = h0 ++ m
  nd : h.Nodup
  lt : ∀ v ∈ h, v < n
  so : ∀ v ∈ h, Rch n R S v
  cl : ∀ u ∈ h0, ∀ v, v < n → P u v → v ∈ h
section
variable {n : Nat} {R : Nat → Nat → Bool} {S h0 h : List Nat} {P P' : Nat → Nat → Prop}
theorem Half.len (q : Half n R S h0 h P) : h.length ≤ n := nodup_le q.nd q.lt
theorem Half.sub (q : Half n R S h0 h P) {v : Nat} (hv : v ∈ h0) : v ∈ h := by
  obtain ⟨m, rfl⟩ := q.x
  exact List.mem_append_left _ hv
end
/-- after r rounds -/
structure Rnd (n : Nat) (R : Nat → Nat → Bool) (S h : List Nat) (r : Nat) : Prop where
  nd : h.Nodup
  lt : ∀ v ∈ h, v < n
  so : ∀ v ∈ h, Rch n R S v
  st : ∀ v ∈ S, v ∈ h
  fu : (∀ v, Rch n R S v → v ∈ h) ∨ r + 1 ≤ h.length
section
variable {n : Nat} {R : Nat → Nat → Bool} {S h h' : List Nat} {r : Nat}
theorem Rnd.next (q : Rnd n R S h r) (z : Half n R S h h' (fun u v => R u v = true)) : Rnd n R S h' (r + 1) :=
  ⟨z.nd, z.lt, z.so, fun v hv => z.sub (q.st v hv), full_step q.st z.x z.nd z.cl q.fu⟩
end
end G
namespace G
open PySem PySem.Spec PyProof.Rows L2 XN
/-- a new object laid where nothing stood -/
theorem inv_laid0 {X : Cx} {pins : List (Addr × Obj)} {σ : L2.St} {H : Hp} {s : Shared} {h' : Heap} {t' : Nat} {e : Addr} {o : HO} (I : Inv X pins σ H s) (k : ∀ b u, s.heap.get? b = some u → h'.get? b = some u) (he : s.heap.get? e = none)
    (n : ObjOk X.prog X.w (upd H e o) h' e o) : Inv X pins σ (upd H e o) { s with heap := h', toks := t' } := by
  have fe := I.hok.gone he
  have old : ∀ c u, H c = some u → upd H e o c = some u := fun c u q => by rw [upd_ne (ne_of_none q fe)]; exact q
  refine I.un ⟨fun b u q _ _ _ => k b u q, fun b u q _ _ _ => ⟨u.slots, k b u q⟩, fun b u q n _ => ?_, fun b u q _ => ⟨u, k b u q⟩, fun b xs q => old b _ q, fun b u v q => old b _ q, fun b ps q => ⟨#[], by rw [Array.append_empty]; exact old b _ q⟩⟩ fun b u q => ?_
  · rw [upd_ne (fun z => by rw [z, he] at q; cases q)]; exact n
  · by_cases hb : b = e
    · subst hb; rw [upd_same] at q; cases q; exact n
    · rw [upd_ne hb] at q
      exact (I.hok b u q).stay (fun c v _ q => k c v q) (fun c q => old c _ q) fun c xs q => old c _ q
/-! ### raise C(..) -/
section
variable {X : Cx} {W : WX} {a : Expr} {es : List Expr} {C fI : Addr} {nm qual : Str} {pa : Pos} {q : List Pos} {ps : List PX} {re : TA} {te : ME (List D)} {pp pos pos2 : Pos} {k : Nat} {kws : List Keyword} {ks : List Str}
def QRx (C : Addr) (ns : List Str) (vs : List V) (H1 : Hp) (Q : XK) : Prop := vs.length = ns.length ∧ ∀ d, H1 d = none → Q (.ref C) (some d) (upd H1 d (.xd (ns.zip vs).reverse))
theorem mk_excN {pins : List (Addr × Obj)} {σ : L2.St} {H : Hp} {s : Shared} {Q : XK} {us ws : List Value} {vs : List V} {kw : List (Str × Value)} {ns : List Str} (T : ExcN X.prog X.K X.mg nm qual pa q ps C fI) (TE : EvN qual pa q ps) (hne : ps ≠ []) (h9 : ps.length ≤ 900) (hr : Room k X.A) (hus : us.length ≤ sizeLine) (I : Inv X pins σ H s)
    (TB : BiN qual pa q ps us kw ws) (hlen : ws.length = ps.length) {zs : List Value} (rz : Vals vs zs) (hl : ∀ f, ((ps.map (·.p)).zip ws).reverse.lookup f = (ns.zip zs).reverse.lookup f) (h : QRx C ns vs H Q) :
    wpAny (model X.prog X.w) X.A (call (.ref C) us kw) (MkP X pins σ Q) X.xe s := by
  have hlim := I.nolimit
  obtain ⟨mb, hb1, hb2⟩ := I.mod.blt
  have hbs := hb2 "super" (by decide)
  obtain ⟨hp, g, dr, tk, os⟩ := s
  refine wpAny_call (exc_madeN T TE TB hlen hne h9 hus I.kIn hlim (I.mod.glob.keeps I.bk) (hb1.keeps I.bk) (hbs.trans (by decide +kernel)) (by have := hr.dp; omega) fun h' tk' e d M => ?_)
  show MkP X pins σ Q (.ref e) ⟨h', g, dr, tk', os⟩
  obtain ⟨oe, fv, hoe, hc, hd, hdat, h1⟩ := M.obj
  have hns := M.ns
  obtain ⟨G', g1, g2⟩ := restrict h' fun b => decide (b ≠ e)
  have gk : ∀ b, b ≠ e → G'.get? b = h'.get? b := fun b hb => g1 b (decide_eq_true hb)
  have ge : G'.get? e = none := g2 e (by simp)
  have old : ∀ b o, hp.get? b = some o → G'.get? b = some o := fun b o q => (gk b (Nat.ne_of_lt (Nat.lt_of_lt_of_le (Heap.lt_size q) M.new))).trans (M.keep b o q)
  have ob : ObjOk X.prog X.w (upd H d (.xd (ns.zip vs).reverse)) G' d (.xd (ns.zip vs).reverse) :=
    ⟨_, hns.at (fun o q => (gk d M.dne).trans q), fun f => by rw [hl f]; exact relO_zip0 rz⟩
  have J : Inv X pins σ (upd H d (.xd (ns.zip vs).reverse)) ⟨G', g, dr, tk', os⟩ := I.laid (t' := tk') old M.dbig ob
  refine ⟨e, oe, fv, ⟨G', g, dr, tk', os⟩, _, .ref C, some d, rfl, J, fun b o q => ?_, ge, hoe, ⟨hc, hd⟩, hdat, h1, ?_, rfl, I.bare, raises_own T.exC T.tyC, h.2 d (I.hok.fresh M.dbig)⟩
  · by_cases hb : b = e
    · have q' : G'.get? b = some o := q
      rw [hb, ge] at q'; cases q'
    · exact (gk b hb).symm.trans q
  · rw [upd_ne (Ne.symm M.dne)]
    exact I.hok.fresh M.new
def tRaiseN (W : WX) (C : Addr) (ns : List Str) (ta : TA) : TS := fun _ σ H => ta σ H fun vs H1 => QRx C ns vs H1 fun cls d H' => W cls d σ H'
def sRaiseN (nm : Str) (ns : List Str) (ta : ME (List D)) : MS := sb ta fun ds => fun s k => if ds.length = ns.length then .ex nm (ns.zip ds).reverse s k else .no
theorem sn_raiseN {K : PySem.W.Frag} {cl : Cl} {ns : List Str} (hC : cl nm = some C) (ha : Sn K cl W (RA K cl) re te) : SnS K cl W (tRaiseN W C ns re) (sRaiseN nm ns te) := by
  intro ad H0 F0 k0 σ H F s k E rel po
  refine ha.sbind rel po fun vs ds H1 F1 k1 _ r1 x1 d1 p1 => ?_
  by_cases hl : ds.length = ns.length
  · rw [if_pos hl] at p1
    refine ⟨d1.length.trans hl, fun dd hdd => ?_⟩
    have n := New.one (o := .xd (ns.zip vs).reverse) r1.rel.sub hdd
    exact p1 _ _ σ _ _ (r1.new n) n.sub ⟨C, hC, rfl, .inr ⟨dd, _, rfl, upd_same, (denF_zip0 d1).mono n.sub⟩⟩
  · rw [if_neg hl] at p1; exact False.elim p1
theorem us_raiseN (hc : X.calm = true) (T : ExcN X.prog X.K X.mg nm qual pa q ps C fI) (TE : EvN qual pa q ps) (TB : ∀ us : List Value, us.length = ps.length → BiN qual pa q ps us [] us) (hne : ps ≠ []) (h9 : ps.length ≤ 900) (hr : Room k X.A) (tk : Takes X W) (ha : UA X W re te (a :: es)) (hg : Gl X nm := by rfl) (hdb : (nm == ("__debug__" : Str)) = false := by decide)
    (he : starEach (a :: es) X.env = (false, eval a X.env) :: starEach es X.env := by rfl) (hpl : (backTo pos (starEach es X.env)).any (·.1) = false := by rfl) :
    US X W (tRaiseN W C (ps.map (·.p)) re) (sRaiseN nm (ps.map (·.p)) te) (.Raise (some (.Call (.Name nm pp) (a :: es) [] pos)) none pos2) := by
  refine ⟨ps_raise hc tk (t := fun σ H Q => re σ H fun vs H1 => QRx C (ps.map (·.p)) vs H1 Q) (fun pins s σ H Q I h => ?_), sn_raiseN (clOf_of T.gC) ha.sn⟩
  refine wpAny_Call_Name_kw (ld_glob I hg T.gC ?_ hdb)
  refine PySem.W.callWith_K (h₀ := X.base) I.ok.mod.kin T.kC (thn (ha.pa.run pos pins s σ H _ I h) ?_) he hpl
  rintro us s1 ⟨vs, H1, I1, r, q⟩
  have hl : us.length = ps.length := by rw [← r.length, q.1, List.length_map]
  exact ⟨I1.kIn, mk_excN (us := us) T TE hne h9 hr (by rw [hl, sizeLine_eq]; exact Nat.le_trans h9 (by decide)) I1 (TB us hl) hl r (fun _ => rfl) q⟩
theorem us_raiseNK (hc : X.calm = true) (T : ExcN X.prog X.K X.mg nm qual pa q ps C fI) (TE : EvN qual pa q ps) (TB : ∀ us : List Value, us.length = ks.length → ∃ vs : List Value, vs.length = ps.length ∧ BiN qual pa q ps [] (ks.zip us) vs ∧ ∀ f, ((ps.map (·.p)).zip vs).reverse.lookup f = (ks.zip us).reverse.lookup f) (hne : ps ≠ []) (h9 : ps.length ≤ 900) (hr : Room k X.A) (tk : Takes X W)
    (hk : UK X W re te kws) (hg : Gl X nm := by rfl) (hdb : (nm == ("__debug__" : Str)) = false := by decide)
    (hall : (backToKw pos (keywordEach kws X.env)).all (·.1.isSome) = true := by rfl) (hks : (backToKw pos (keywordEach kws X.env)).filterMap (·.1) = ks := by rfl)
    (hpl : (backToKw pos (keywordEach kws X.env)).any (·.1.isNone) = false := by rfl) :
    US X W (tRaiseN W C ks re) (sRaiseN nm ks te) (.Raise (some (.Call (.Name nm pp) [] kws pos)) none pos2) := by
  refine ⟨ps_raise hc tk (t := fun σ H Q => re σ H fun vs H1 => QRx C ks vs H1 Q) (fun pins s σ H Q I h => ?_), sn_raiseN (clOf_of T.gC) hk.sn⟩
  refine wpAny_Call_Name_kw (ld_glob I hg T.gC ?_ hdb)
  refine PySem.W.callWith_KW0 (h₀ := X.base) I.ok.mod.kin T.kC hall (thn (hk.pk.run pos pins s σ H _ I h) fun ws s2 ⟨zs, H2, I2, rz, q2⟩ => ⟨I2.kIn, ?_⟩) hpl
  rw [hks]
  have hl : ws.length = ks.length := by rw [← rz.length, q2.1]
  obtain ⟨vs, l1, B, l2⟩ := TB ws hl
  exact mk_excN T TE hne h9 hr (Nat.zero_le _) I2 B l1 rz l2 q2
/-! ### C() as a value, C without an __init__ of its own -/
def tExc0 (C : Addr) : TE := fun _ H Q => ∀ e, H e = none → Q (.ref e) (upd H e (exH e C none))
def dExc0 (nm : Str) : ME D := ep (.exc nm [])
theorem u_exc0 {p : Pos} (T : ExcO X.K X.mg nm C) (hg : Gl X nm := by rfl) (hdb : (nm == ("__debug__" : Str)) = false := by decide) : UE X W (tExc0 C) (dExc0 nm) (.Call (.Name nm p) [] [] pos) := by
  refine ⟨⟨fun pins s σ H Q I h => ?_⟩, fun ad σ H F s k Q rel po e he => ?_⟩
  · refine wpAny_Call_Name_kw (ld_glob I hg T.gC ?_ hdb)
    refine PySem.W.callWith_K0 I.kIn T.kp ?_
    show wpAny _ _ (call (.ref C) []) _ _ _
    obtain ⟨bm, N, nm, qn, bs, hdct, sn, sub, ab, col, dd, k0, k1, k2, k3, k5, mN, hC, hN, hni, T'⟩ := exc_obj I.kIn T.ex
    refine wpAny_call_exc_subT PySem.F.excBase_Exception T' hC hN hni (fun h' e hm => ?_) (by show 0 ≤ sizeLine; exact Nat.zero_le _)
    obtain ⟨t, he, _, _⟩ := hm.there
    refine ⟨.ref e, _, inv_laid0 (t' := s.toks) (o := exH e C none) I hm.keeps hm.new ⟨⟨_, _, he, rfl, rfl, rfl⟩, ⟨_, he⟩, fun h1 h2 ⟨oe, vs, e1, e2⟩ kk => ⟨oe, vs, kk _ e1, e2⟩⟩, rfl, h e (I.hok.gone hm.new)⟩
  · have n := New.one (o := exH e C none) rel.sub he
    exact po.ok rel n (.exc0 (clOf_of T.gC) upd_same)
/-! ### isinstance(e, a class), e an own exception -/
/-- what is known of the classes of exceptions beside the class u -/
def IsN (K : PySem.W.Frag) (cl : Cl) (u : Value) (xt : List (Str × Bool)) : Prop := ∀ c b, xt.lookup c = some b → ∀ C, cl c = some C → PySem.W.kitOne K (.ref C) u = some b ∧ XIs K C
def rIsiN (K : PySem.W.Frag) (u : Value) (v : V) : List V → Hp → VK → Prop := fun xs H Q => ∃ a C dd b, xs = [.ref a, v] ∧ H a = some (exH a C dd) ∧ (dd = none ∨ ∃ d vs, dd = some d ∧ H d = some (.xd vs)) ∧ XIs K C ∧ PySem.W.kitOne K (.ref C) u = some b ∧ Q (.bl b) H
theorem call_isiN {u : Value} {v : V} (hu : ∀ w, RelV v w → w = u) : CallR X (.builtin "isinstance") (rIsiN X.K u v) := by
  intro pins s σ H xs us Q I r h
  obtain ⟨a, C, dd, b, rfl, ha, hd, T, e, q⟩ := h
  obtain ⟨u1, u2, rfl, r1, r2⟩ := vals2 r
  cases (show u1 = Value.ref a from r1)
  cases hu u2 r2
  have hx : ObjOk X.prog X.w H s.heap a (exH a C dd) := I.hok a _ ha
  obtain ⟨⟨oe, fv, e1, e2, e3, e4⟩, _, _⟩ := hx
  obtain ⟨od, J⟩ : ∃ od, PySem.W.InstAt s.heap a oe C od := by
    rcases hd with rfl | ⟨d, vs, rfl, hd⟩
    · exact ⟨none, e1, e2, by unfold PySem.W.notCls; rw [e4] <;> rfl, by rw [e3]; trivial⟩
    · have hx2 : ObjOk X.prog X.w H s.heap d (.xd vs) := I.hok d _ hd
      obtain ⟨mA, hns, hr⟩ := hx2
      obtain ⟨od, ho, hl⟩ := lookIn_ns hns
      exact ⟨some od, e1, e2, by unfold PySem.W.notCls; rw [e4] <;> rfl, by rw [e3]; exact ho⟩
  exact PySem.W.kia_one (PySem.W.kitx_exc T.cls T.ga T.gg T.sub T.ha T.hn T.htk T.hm) I.kIn J e (fun z => nomatch z) fun tk => ⟨.bl b, H, I.tok tk, rfl, q⟩
def isiN (xt : List (Str × Bool)) : D → Option D
  | .exc c _ => (xt.lookup c).map D.bl
  | _ => none
theorem u_isiN {a2 : Expr} {ra : TE} {ta : ME D} {p : Pos} {u : Value} {v : V} {xt : List (Str × Bool)} (hu : ∀ w, RelV v w → w = u) (T : IsN X.K (clOf X.mg) u xt) (hg0 : Gl X "isinstance") (hm0 : X.mg "isinstance" = none) (ha : UE X W ra ta a) (hb : PE X a2 (tC v))
    (he : starEach [a, a2] X.env = (false, eval a X.env) :: starEach [a2] X.env := by rfl) (he2 : starEach [a2] X.env = (false, eval a2 X.env) :: starEach [] X.env := by rfl) (hpl : (backTo pos (starEach [a2] X.env)).any (·.1) = false := by rfl) :
    UE X W (tCB (rIsiN X.K u v) (tCons ra (tCons (tC v) tNil))) (dUn (isiN xt) ta) (.Call (.Name "isinstance" p) [a, a2] [] pos) := by
  refine ⟨pe_callB (call_isiN hu) hg0 hm0 (by decide +kernel) (pa_cons ha.pe (pa_cons hb pa_nil he2) he) (by decide) (by decide) he hpl, fun ad σ H F s k Q rel p => ?_⟩
  refine ha.sn.bind rel p fun x d H1 F1 k1 _ r1 x1 d1 p1 => ?_
  obtain ⟨z, hz, p3⟩ := p1.eo
  cases d1 with
  | exc0 h1 h2 =>
    obtain ⟨b, e1, e2⟩ := Option.map_eq_some_iff.mp hz
    subst e2
    obtain ⟨g1, g2⟩ := T _ b e1 _ h1
    exact ⟨_, _, _, b, rfl, r1.sub _ _ h2, .inl rfl, g2, g1, p3.ok0 r1 (.bl b)⟩
  | exc h1 h2 h3 h4 =>
    obtain ⟨b, e1, e2⟩ := Option.map_eq_some_iff.mp hz
    subst e2
    obtain ⟨g1, g2⟩ := T _ b e1 _ h1
    exact ⟨_, _, _, b, rfl, r1.sub _ _ h2, .inr ⟨_, _, rfl, r1.sub _ _ h3⟩, g2, g1, p3.ok0 r1 (.bl b)⟩
  | _ => cases hz
theorem u_isiNC {ra : TE} {ta : ME D} {p pn : Pos} {nm : Str} {Cc : Addr} {xt : List (Str × Bool)} (T : IsN X.K (clOf X.mg) (.ref Cc) xt) (hg0 : Gl X "isinstance") (hm0 : X.mg "isinstance" = none) (hm : X.mg nm = some (.ref Cc)) (ha : UE X W ra ta a) (hg : Gl X nm := by rfl) (hdb : (nm == ("__debug__" : Str)) = false := by decide)
    (he : starEach [a, .Name nm pn] X.env = (false, eval a X.env) :: starEach [.Name nm pn] X.env := by rfl) (he2 : starEach [.Name nm pn] X.env = (false, eval (.Name nm pn) X.env) :: starEach [] X.env := by rfl) (hpl : (backTo pos (starEach [.Name nm pn] X.env)).any (·.1) = false := by rfl) :
    UE X W (tCB (rIsiN X.K (.ref Cc) (.ref Cc)) (tCons ra (tCons (tC (.ref Cc)) tNil))) (dUn (isiN xt) ta) (.Call (.Name "isinstance" p) [a, .Name nm pn] [] pos) :=
  u_isiN (fun _ r => r) T hg0 hm0 ha (pe_glob hg hm rfl hdb) he he2 hpl
theorem u_isiNT {ra : TE} {ta : ME D} {p pn : Pos} {nm : Str} {Ty : String} {xt : List (Str × Bool)} (T : IsN X.K (clOf X.mg) (.type Ty) xt) (hg0 : Gl X "isinstance") (hm0 : X.mg "isinstance" = none) (hm : X.mg nm = none) (hv : bootBuiltins nm = some (.type Ty)) (ha : UE X W ra ta a) (hg : Gl X nm := by rfl) (hn : nm ≠ "__name__" := by decide) (hdb : (nm == ("__debug__" : Str)) = false := by decide)
    (he : starEach [a, .Name nm pn] X.env = (false, eval a X.env) :: starEach [.Name nm pn] X.env := by rfl) (he2 : starEach [.Name nm pn] X.env = (false, eval (.Name nm pn) X.env) :: starEach [] X.env := by rfl) (hpl : (backTo pos (starEach [.Name nm pn] X.env)).any (·.1) = false := by rfl) :
    UE X W (tCB (rIsiN X.K (.type Ty) (.ty Ty)) (tCons ra (tCons (tC (.ty Ty)) tNil))) (dUn (isiN xt) ta) (.Call (.Name "isinstance" p) [a, .Name nm pn] [] pos) :=
  u_isiN (fun _ r => r) T hg0 hm0 ha (pe_bltn hg hm hv rfl hn hdb) he he2 hpl
/-! ### list.count(a bool), len(set(ints)) -/
def rCntF (K : PySem.W.Frag) : V → List V → Hp → VK → Prop := fun x xs H Q => ∃ (p : Addr) (ys : List V) (y : V), x = .ref p ∧ xs = [y] ∧ SqL K H p ys ∧ flatV y = true ∧ ys.all flatV = true ∧ Q (.int ((ys.countP fun z => eqV z y : Nat) : Int)) H
theorem countP_vals {y : V} : ∀ {ys : List V} {us : List Value}, Vals ys us → ys.all flatV = true → us.countP (eqU y) = ys.countP fun z => eqV z y
  | _, _, .nil, _ => rfl
  | z :: ys, u :: us, .cons r t, h => by
    rw [List.all_cons, Bool.and_eq_true] at h
    rw [List.countP_cons, List.countP_cons, countP_vals t h.2, eqU_of r h.1]
theorem mt_cntF : MtR X "list.count" (rCntF X.K) := by
  intro pins s σ H x xs v us Q I rx rxs h
  obtain ⟨p, ys, y, rfl, rfl, hs, fy, fys, q⟩ := h
  cases rx
  obtain ⟨u, rfl, ru⟩ := rxs.one
  obtain ⟨its, rv, ⟨⟨cls, dd, data, sl⟩, n, ho, hc, hdn, hd⟩, hlen⟩ := I.list hs
  simp only at hc hd
  subst hc hd
  refine call_meets PySem.F.slot_list_count ⟨_, ho, rfl⟩ PySem.F.entry_list_count (PySem.F.args_list_count_2 _ _)
    (SeqAt.list_countAt p its.toArray n dd sl u (eqU y)) ⟨ho, fun u' hu' => mem_eqAt ru fy rv fys u' (by simpa using hu'), ?_⟩
  refine ⟨.int ((ys.countP fun z => eqV z y : Nat) : Int), H, I.tok _, ⟨s.toks, ?_⟩, q⟩
  show Value.int ((its.toArray.toList.countP (eqU y) : Nat) : Int) s.toks = Value.int ((ys.countP fun z => eqV z y : Nat) : Int) s.toks
  rw [show its.toArray.toList = its from rfl, countP_vals rv fys]
def blsOf : List D → Option (List Bool)
  | [] => some []
  | .bl b :: r => (blsOf r).map (b :: ·)
  | _ => none
theorem bls_den {K : PySem.W.Frag} {cl : Cl} {ad : Ad} {F : Hp} : ∀ {vs : List V} {ds : List D} {bs : List Bool}, DenA K cl ad F vs ds → blsOf ds = some bs → vs = bs.map V.bl
  | _, _, _, .nil, e => by cases e; rfl
  | _, _, _, .cons h1 h2, e => by
    cases h1 with
    | bl b =>
      obtain ⟨bs, e1, e2⟩ := Option.map_eq_some_iff.mp e
      subst e2
      rw [bls_den h2 e1]; rfl
    | _ => cases e
def cntBD : D → List D → Option D
  | .lst xs, [.bl b] => (blsOf xs).map fun bs => .int ((bs.countP fun z => z == b : Nat) : Int)
  | _, _ => none
theorem sn_cntB {K : PySem.W.Frag} {cl : Cl} : MtS K cl (rCntF K) cntBD := by
  intro ad F H x xs d ds z Q sub hx hxs hz q
  cases hx with
  | @lst p vs es h a =>
    cases hxs with
    | nil => cases hz
    | @cons y ys d2 ds2 h1 r1 =>
      cases r1 with
      | cons _ _ => cases h1 <;> cases hz
      | nil =>
        cases h1 with
        | bl b =>
          obtain ⟨bs, e1, e2⟩ := Option.map_eq_some_iff.mp (show (blsOf es).map (fun bs => D.int ((bs.countP fun z => z == b : Nat) : Int)) = some z from hz)
          subst e2
          obtain rfl := bls_den a e1
          refine ⟨p, _, .bl b, rfl, rfl, .of (sub _ _ h), rfl, by rw [List.all_map]; exact List.all_eq_true.mpr fun _ _ => rfl, ?_⟩
          have e : (bs.map V.bl).countP (fun z => eqV z (.bl b)) = bs.countP fun z => z == b := by rw [List.countP_map]; rfl
          rw [e]
          exact q _ H F (New.refl sub) (.int _)
        | _ => cases hz
  | _ => cases hz
def lenSetD : D → Option D
  | .lst xs => match intsOf xs with
    | some ns => if ns.length < 64 ∧ ns.Nodup then some (.int ns.length) else none
    | none => none
  | _ => none
theorem u_lenSet {ra : TE} {ta : ME D} {p p2 q pos : Pos} (hc : X.calm = true) (hg : Gl X "len") (hm : X.mg "len" = none) (hg2 : Gl X "set") (hm2 : X.mg "set" = none) (ha : UE X W ra ta a)
    (na : starEach [a] X.env = (false, eval a X.env) :: starEach [] X.env := by rfl) : UE X W (tLenSetI X.K ra) (dUn lenSetD ta) (.Call (.Name "len" p) [.Call (.Name "set" p2) [a] [] q] [] pos) := by
  refine ⟨pe_lenSetI hc hg hm hg2 hm2 ha.pe na, fun ad σ H F s k Q rel p => ?_⟩
  refine ha.sn.bind rel p fun x d H1 F1 k1 _ r1 x1 d1 p1 => ?_
  obtain ⟨z, hz, p3⟩ := p1.eo
  cases d1 with
  | @lst l vs es h a =>
    unfold lenSetD at hz
    dsimp only at hz
    cases e1 : intsOf es with
    | none => rw [e1] at hz; cases hz
    | some ns =>
      rw [e1] at hz
      dsimp only at hz
      split at hz
      · rename_i hh
        cases hz
        obtain rfl := ints_denA a e1
        exact ⟨l, ns, rfl, .of (r1.sub _ _ h), hh.1, hh.2, p3.ok0 r1 (.int _)⟩
      · cases hz
  | _ => cases hz
end
end G
/-! a call that gives a fresh list; the head's facts about exceptions of several parameters -/
namespace G
open PySem PySem.Spec PyProof.Rows L2
def PostFF (K : PySem.W.Frag) (cl : Cl) (ad : Ad) (k : Sk) (F H : Hp) (r : RE D) (Q : VK) (E : XK) : Prop :=
  match r with
  | .ok d k' => ∀ p o H' F', Same F' H' → KOk K cl ad H' F' k' → Ext ad k k' F H F' H' → H p = none → H' p = some o → F' p = none → Fre ad k' p → OwnOk K cl ad F' o d → Q (.ref p) H'
  | .ex c fs k' => ∀ cls dd H' F', Same F' H' → KOk K cl ad H' F' k' → Ext ad k k' F H F' H' → ExcIs K cl ad F' cls dd c fs → E cls dd H'
  | .no => False
def spF (K : PySem.W.Frag) (cl : Cl) (g : Fn) : Sp := fun vs H Q E => ∃ ad F ds k, Same F H ∧ DenA K cl ad F vs ds ∧ KOk K cl ad H F k ∧ PostFF K cl ad k F H (g ds k) Q E
/-- a def whose body is `return e`, e a new list of its own -/
def fnFr (np nN : Nat) (t : ME D) : Fn := fun ds k => if ds.length = np then t (ds.map Sl.val ++ List.replicate (nN - ds.length) Sl.emp) k else .no
section
variable {P : Program} {w : World} {K : PySem.W.Frag} {mg : Str → Option Value} {base : Heap}
theorem fn_okF {x qual : Str} {params : Arguments} {e : Expr} {pos : Pos} {scope : Scope} {kws : List (Str × V)} {f : Addr} {fd : FuncData} {N ps : List Str} {j : Nat} {t : ME D}
    (F : FunD K x qual params [.Return (some e) pos] scope [] kws f fd) (S : FnScope N ps scope)
    (hbody : ∀ (cdv : Value) (A : Around) (outer : List Env) (s : Shared) (H : Hp) (E : XK), A.guards = some [] → Room j (A.deeper (envOfC qual scope s.heap.objs.size f cdv)) →
      ∃ r, UF (cxOf (L2.CX P w) P w K mg base N qual scope f cdv A outer s H E) (WEx E) r t e) :
    FnG P w K mg base (j + 1) f fd ps (spF K (clOf mg) (fnFr ps.length N.length t)) := by
  refine fn_ofG F S (fun vs H Q E h => ?_) (fun cdv A outer s H vs Q E gd hr h => ?_)
  · obtain ⟨ad, F', ds, k, h1, h2, h3, h4⟩ := h
    by_cases c : ds.length = ps.length
    · rw [h2.length]; exact c
    · unfold fnFr at h4
      rw [if_neg c] at h4
      exact False.elim h4
  · obtain ⟨ad, F', ds, k, h1, h2, h3, h4⟩ := h
    obtain ⟨r, u⟩ := hbody cdv A outer s H E gd hr
    refine ⟨_, pss_one (ps_ret u.pe), ?_⟩
    have rel := rel_start (cl := clOf mg) N h1 h2 h3
    refine u.sn ad (L2.start N vs) H F' _ k _ rel.rel ?_
    by_cases c : ds.length = ps.length
    · unfold fnFr at h4
      rw [if_pos c] at h4
      cases q : t (ds.map Sl.val ++ List.replicate (N.length - ds.length) Sl.emp) k with
      | ok d k' => rw [q] at h4; exact fun p o H' F'' r' x' a1 a2 a3 a4 a5 => h4 p o H' F'' r'.sub r'.dk x' a1 a2 a3 a4 a5
      | ex c fs k' => rw [q] at h4; exact fun cls dd H' F'' r' x' e' => h4 cls dd H' F'' r'.sub r'.dk x' e'
      | no => rw [q] at h4; exact h4
    · unfold fnFr at h4
      rw [if_neg c] at h4
      exact False.elim h4
end
section
variable {X : Cx} {W : WX} {a : Expr} {es : List Expr} {re : TA} {te : ME (List D)} {pos p : Pos} {x : Str} {f : Addr} {fd : FuncData} {ps : List Str} {j : Nat} {g : Fn}
theorem sn_callF {K : PySem.W.Frag} {cl : Cl} (ha : Sn K cl W (RA K cl) re te) : SnF K cl W (tCallS (spF K cl g) (WE W) re) (dCall g te) := by
  intro ad σ H F s k Q rel p
  refine ha ad σ H F s k _ rel ?_
  unfold dCall eb at p
  cases q : te s k with
  | no => rw [q] at p; exact p
  | ex c fs k' => rw [q] at p; exact p
  | ok ds k1 =>
    rw [q] at p
    intro vs H1 F1 r1 x1 d1
    refine ⟨ad, F1, ds, k1, r1.sub, d1, r1.dk, ?_⟩
    have p : PoF K cl W ad σ H F s k (g ds k1) Q := p
    cases z : g ds k1 with
    | ok d k' =>
      rw [z] at p
      intro b o H' F' h1 h2 h3 h4 h5 h6 h7 h8
      have h0 : H b = none := by
        cases w : H b with
        | none => rfl
        | some u => exact absurd h4 (x1.there b (by rw [w]; exact fun z => nomatch z))
      exact p b o H' F' (r1.extd h3 h1 h2) (x1.trans h3) h0 h5 h6 h7 h8
    | ex c fs k' =>
      rw [z] at p
      exact fun cls dd H' F' h1 h2 h3 h4 => p cls dd H' F' (r1.extd h3 h1 h2) (x1.trans h3) h4
    | no => rw [z] at p; exact p
theorem uf_call0 (F : FnG X.prog X.w X.K X.mg X.base j f fd ps (spF X.K (clOf X.mg) g)) (gd : X.A.guards = some []) (hr : Room j X.A) (hm : X.mg x = some (.ref f)) (hk : PySem.W.keepIn X.K (.ref f) = true) (hb : Binds X.K fd ps []) (tk : Takes X W)
    (hg : Gl X x := by rfl) (hdb : (x == ("__debug__" : Str)) = false := by decide) : UF X W (tCallS (spF X.K (clOf X.mg) g) (WE W) tNil) (dCall g dNil) (.Call (.Name x p) [] [] pos) := by
  refine ⟨⟨fun pins s σ H Q I h => ?_⟩, sn_callF (ua_nil (X := X) (W := W)).sn⟩
  exact wpAny_Call_Name_kw (ld_glob I hg hm (PySem.W.callWith_K0 I.kIn hk (run_fnG (us := []) F gd hr hb (passAt tk σ) I .nil h)) hdb)
end
end G
namespace HZ
open PySem PySem.Spec PyProof.Rows L2 G HX XN
theorem XnD.txt {P : Program} {K : PySem.W.Frag} {h : Heap} {mg : Str → Option Value} {d : XnD} (X : K.In h) (G : h.Ns mainGlobals mg) (e : fnN K d.nm = XnD.val d) (c : XnD.ok P K d = true) : ExcN P K mg d.nm d.qual d.a d.q d.ps (He.ga K d.nm) (He.ma K (He.ga K d.nm) "__init__") := by
  unfold XnD.ok at c
  simp only [Bool.and_eq_true, Bool.not_eq_true', eqO, eqB, decide_eq_true_eq, List.all_eq_true, nmB] at c
  obtain ⟨⟨⟨⟨⟨⟨⟨⟨⟨c1, c2⟩, n1, n2⟩, c4, c5⟩, c6, c9⟩, c10, c11⟩, ⟨⟨c12, c13⟩, c14⟩, c15⟩, ⟨⟨c16, c17⟩, c18⟩, c19⟩, c20⟩, c21⟩ := c
  refine ⟨PySem.W.mg_of X G c1, PySem.W.mg_none_of X G c2, fun x hx => ⟨(n1 x hx).1.1.1, (n1 x hx).1.1.2, (n1 x hx).1.2, (n1 x hx).2⟩, n2, c4, c5, c6, fun x hx => c9 x hx, c10, c11, c12, c13, c14, c15, c16, c17, c18, c19, c20, ?_⟩
  unfold fnN at e
  cases q : K.lookup (He.ma K (He.ga K d.nm) "__init__") with
  | none => rw [q] at e; cases e
  | some o =>
    obtain ⟨oc, od, dt, osl⟩ := o
    rw [q] at e c21
    cases dt with
    | func fd =>
      obtain ⟨n1, n2, n3, n4, n5, n6, n7, n8, n9, n10, n11, n12, n13, n14, n15⟩ := fd
      have e2 : (some (n1, n2, n3, n4, n5, n6, n8, n9, n15) : FnX) = some (Str.ofString "__init__", d.qual, nA d.a d.ps, .stmts (nB d.q d.ps), nS d.ps, mainGlobals, .none, .none, builtinsNs) := e
      simp only [Option.some.injEq, Prod.mk.injEq] at e2
      obtain ⟨h1, h2, h3, h4, h5, h6, h8, h9, h15⟩ := e2
      subst h1 h2 h3 h4 h5 h6 h8 h9 h15
      dsimp only at c21
      obtain ⟨k12, k3⟩ := He.ba c21
      obtain ⟨k1, k2⟩ := He.ba k12
      split at k2
      · rename_i n cl hcl
        rw [Bool.and_eq_true, beq_iff_eq] at k2
        obtain ⟨rfl, k2⟩ := k2
        split at k2
        · rename_i c hc
          obtain rfl := beq_iff_eq.mp k2
          split at k3
          · rename_i cc
            split at k3
            · rename_i vs hcc
              split at k3
              · rename_i file tf hv
                exact ⟨oc, od, n10, n11, n12, _, n14, osl, _, _, _, _, _, _, _, rfl, k1, hc, rfl, rfl, hcc, rfl, hv, k3⟩
              · cases k3
            · cases k3
          · cases k3
        · cases k2
      · cases k2
    | _ => cases e
section
variable {P : Program} {fa : List He.Fa} {fn : List He.DefD} {fx : List Fx} {xs : List XcD} {fw : List He5.DefA} {xn : List XnD} {K : PySem.W.Frag}
theorem SaysZ.z (c : SaysZ P fa fn fx xs fw xn K) : HY.SaysY P fa fn fx xs fw K := congrArg (fun z : AlZ => z.1) c
theorem SaysZ.n (c : SaysZ P fa fn fx xs fw xn K) {hp : Heap} {mg : Str → Option Value} (X : K.In hp) (G : hp.Ns mainGlobals mg) (i : Nat) {d : XnD} (h : xn[i]? = some d := by rfl) : ExcN P K mg d.nm d.qual d.a d.q d.ps (He.ga K d.nm) (He.ma K (He.ga K d.nm) "__init__") := by
  have c2 : (xn.all fun d => XnD.ok P K d) = true := congrArg (fun z : AlZ => z.2.1) c
  have e : xn.map (fun d => fnN K d.nm) = xn.map XnD.val := congrArg (fun z : AlZ => z.2.2) c
  have e2 : (xn.map fun d => fnN K d.nm)[i]? = (xn.map XnD.val)[i]? := by rw [e]
  rw [List.getElem?_map, List.getElem?_map, h] at e2
  exact XnD.txt X G (Option.some.inj e2) (List.all_eq_true.mp c2 d (List.mem_of_getElem? h))
end
theorem look_mem : ∀ {cs : List (Str × Bool)} {c : Str} {b : Bool}, cs.lookup c = some b → (c, b) ∈ cs
  | [], _, _, h => nomatch h
  | x :: cs, c, b, h => by
    rw [List.lookup_cons] at h
    by_cases e : c = x.1
    · rw [e, beq_self_eq_true] at h
      cases h
      rw [e]; exact List.mem_cons_self ..
    · rw [show (c == x.1) = false by simpa using e] at h
      exact List.mem_cons_of_mem _ (look_mem h)
theorem kindsB_ok {cs : List (Str × Bool)} {nm : Str} {K : PySem.W.Frag} {h : Heap} {mg : Str → Option Value} (X : K.In h) (Gn : h.Ns mainGlobals mg) (e : kindsB cs nm K = true) : IsN K (clOf mg) (.ref (He.ga K nm)) cs := fun c b hl C hC => by
  have q := List.all_eq_true.mp e _ (look_mem hl)
  obtain ⟨q1, q3⟩ := He.ba q
  obtain ⟨q1, q2⟩ := He.ba q1
  have g : mg c = some (.ref (He.ga K c)) := PySem.W.mg_of X Gn (of_decide_eq_true q3)
  have := clOf_of g
  rw [this] at hC
  cases hC
  exact ⟨kit_ok q2, xis_ok q1⟩
theorem kindsT_ok {cs : List (Str × Bool)} {T : String} {K : PySem.W.Frag} {h : Heap} {mg : Str → Option Value} (X : K.In h) (Gn : h.Ns mainGlobals mg) (e : kindsT cs T K = true) : IsN K (clOf mg) (.type T) cs := fun c b hl C hC => by
  have q := List.all_eq_true.mp e _ (look_mem hl)
  obtain ⟨q1, q3⟩ := He.ba q
  obtain ⟨q1, q2⟩ := He.ba q1
  have g : mg c = some (.ref (He.ga K c)) := PySem.W.mg_of X Gn (of_decide_eq_true q3)
  have := clOf_of g
  rw [this] at hC
  cases hC
  exact ⟨of_decide_eq_true (show eqB _ _ = true from q2), xis_ok q1⟩
end HZ
namespace G
open PySem PySem.Spec PyProof.Rows L2
/-- what is known of a def that gives a fresh list -/
structure CeF (P : Program) (w : World) (K : PySem.W.Frag) (mg : Str → Option Value) (base : Heap) (j : Nat) (x : Str) (ps : List Str) (g : Fn) (f : Addr) (fd : FuncData) : Prop where
  ok : FnG P w K mg base j f fd ps (spF K (clOf mg) g)
  g : mg x = some (.ref f)
  k : PySem.W.keepIn K (.ref f) = true
  b : Binds K fd ps []
end G
/-! defs that are called within an except suite, and raise nothing there -/
namespace G
open PySem PySem.Spec PyProof.Rows L2 L2H
structure FnQ (P : Program) (w : World) (K : PySem.W.Frag) (mg : Str → Option Value) (base : Heap) (k : Nat) (f : Addr) (fd : FuncData) (ps : List Str) (sp : Sp) : Prop where
  len : ∀ vs H Q E, sp vs H Q E → vs.length = ps.length
  run : ∀ (A : Around) (outer : List Env) (s : Shared) (H : Hp) (args : Args) (us : List Value) (vs : List V) (Q : VK) (E : XK), RoomH k A → Env0 P w K mg base A outer s H → BindsTo s fd args (ps.zip us) → Vals vs us → sp vs H Q E →
    codeAny (model P w) A (.call (.ref f) args) (CR (L2.CX P w) outer P w H s Q E) s
theorem code_fields {K : PySem.W.Frag} {cd : Value} {q : Str} (e : PySem.W.codeIn K cd q = true) : ∃ c oc vs, K.lookup c = some oc ∧ oc.data = .fields vs := by
  unfold PySem.W.codeIn at e
  split at e
  · rename_i c
    split at e
    · rename_i a b vs d h
      exact ⟨c, _, vs, h, rfl⟩
    · cases e
  · cases e
section
variable {P : Program} {w : World} {K : PySem.W.Frag} {mg : Str → Option Value} {base : Heap}
theorem fn_okQ {x qual : Str} {params : Arguments} {body : List Stmt} {scope : Scope} {kws : List (Str × V)} {f : Addr} {fd : FuncData} {N ps : List Str} {j : Nat} {db : MS}
    (F : FunD K x qual params body scope [] kws f fd) (S : FnScope N ps scope)
    (hbody : ∀ (cdv : Value) (A : Around) (outer : List Env) (s : Shared) (H : Hp) (E : XK) (p : Addr × Obj), RoomH j (A.deeper (envOfC qual scope s.heap.objs.size f cdv)) →
      ∃ r, USs (cxH (L2.CX P w) P w K mg base N qual scope f cdv A outer s H E p) (WEx E) r db body) :
    FnQ P w K mg base (j + 1) f fd ps (spD K (clOf mg) (fnDen ps.length N.length db)) := by
  obtain ⟨oc, od, dV, kV, doc, pm, an, cdv, ct, osl, rfl, lk, hcd, _, _⟩ := F.ex
  have len : ∀ vs H Q E, spD K (clOf mg) (fnDen ps.length N.length db) vs H Q E → vs.length = ps.length := fun vs H Q E h => by
    obtain ⟨ad, F', ds, k, h1, h2, h3, h4⟩ := h
    by_cases c : ds.length = ps.length
    · rw [h2.length]; exact c
    · unfold fnDen at h4
      rw [if_neg c] at h4
      exact False.elim h4
  refine ⟨len, fun A outer s H args us vs Q E hr e0 hb r hsp => ?_⟩
  have keep : ∀ b o, base.get? b = some o → s.heap.get? b = some o := fun b o e => (e0.bs b o e).1
  have KX : K.In s.heap := e0.mod.kin.keeps keep
  have kinds : ∀ y ∈ ps.zip us, scope.names.lookup y.1 = some .local ∨ (scope.names.lookup y.1 = some .cell ∧ ((cellsFrom (s.heap.objs.size + 1) scope.names []).lookup y.1).isSome = true) := by
    intro y hy
    obtain ⟨n, v⟩ := y
    cases S.par n (List.of_mem_zip hy).1 with
    | inl q => exact Or.inl q
    | inr q => exact Or.inr ⟨q, PySem.W.cellsFrom_some _ _ _ (Or.inl q)⟩
  obtain ⟨c, oc', fvs, hc1, hc2⟩ := code_fields hcd
  have hcb : base.get? c = some oc' := e0.mod.kin _ _ hc1
  have hpin : PinOk outer H s (c, oc') := by
    refine ⟨keep _ _ hcb, (e0.bs _ _ hcb).2, fun hm => ?_, fun v z => ?_⟩
    · have := (e0.funs.mem hm).1
      rw [hcb] at this; cases this
    · have z : oc'.data = .cell v := z
      rw [hc2] at z; cases z
  have hl := len _ _ _ _ hsp
  obtain ⟨ad, F', ds, k, h1, h2, h3, h4⟩ := hsp
  obtain ⟨t, u⟩ := hbody cdv A outer s H E (c, oc') (hr.deeper _)
  refine codeAny_call_function hr.depth (KX _ _ lk) rfl S.co S.gen rfl (PySem.W.codeRec_of KX hcd) (hb _ _ _ _ (wpAny_newFunctionEnv_cells S.kind kinds ?_))
  intro env he s1 x1
  subst he
  refine ⟨(e0.mod.nolimit.keeps keep).keeps x1.toInCall.keep, codeAny_func ?_⟩
  have I : Inv (cxH (L2.CX P w) P w K mg base N qual scope f cdv A outer s H E (c, oc')) [] (L2.start N vs) H s1 := inv_startH S hpin e0 hl r x1
  have hq : t { nx := fun _ H' => Q .non H', rt := Q } (L2.start N vs) H := by
    refine u.sn ad H F' k (L2.start N vs) H F' _ k _ (rel_start N h1 h2 h3) ?_
    by_cases c : ds.length = ps.length
    · unfold fnDen at h4
      rw [if_pos c] at h4
      cases q : db (ds.map Sl.val ++ List.replicate (N.length - ds.length) Sl.emp) k with
      | nx s' k' => rw [q] at h4; exact fun σ' H' F'' r' x' => h4 .non H' F'' r'.rel.sub r'.rel.dk r'.ext .non
      | ret d k' => rw [q] at h4; exact fun v σ' H' F'' s' r' x' d' => h4 v H' F'' r'.rel.sub r'.rel.dk r'.ext d'
      | ex c fs s' k' => rw [q] at h4; exact fun cls dd σ' H' F'' r' x' e' => h4 cls dd H' F'' r'.rel.sub r'.rel.dk r'.ext e'
      | brk s' k' => rw [q] at h4; exact False.elim h4
      | ct s' k' => rw [q] at h4; exact False.elim h4
      | no => rw [q] at h4; exact False.elim h4
    · unfold fnDen at h4
      rw [if_neg c] at h4
      exact False.elim h4
  refine wpAny_mono (u.ps.run [] s1 (L2.start N vs) H _ I hq) ?_ (fun e s' hs => hs)
  intro fl s' hs
  cases fl with
  | ret u =>
    obtain ⟨v, σ', H', J, rv, q⟩ := hs
    exact ⟨v, H', J.os, J.bare, J.base, J.hok, rv, q⟩
  | next =>
    obtain ⟨σ', H', J, q⟩ := hs
    exact ⟨V.non, H', J.os, J.bare, J.base, J.hok, rfl, q⟩
  | brk => exact False.elim hs.choose_spec.choose_spec.2
  | cont => exact False.elim hs.choose_spec.choose_spec.2
end
section
variable {X : Cx} {W : WX} {a : Expr} {es : List Expr} {re : TA} {te : ME (List D)} {pos p : Pos} {x : Str} {f : Addr} {fd : FuncData} {ps : List Str} {j : Nat} {g : Fn}
theorem run_fnQ {pins : List (Addr × Obj)} {σ : L2.St} {H : Hp} {s : Shared} {Q : VK} {us : List Value} {vs : List V} {sp : Sp} {E : XK} (F : FnQ X.prog X.w X.K X.mg X.base j f fd ps sp) (hr : RoomH j X.A) (hb : Binds X.K fd ps []) (hx : PassesAt (L2.CX X.prog X.w) X σ E)
    (I : Inv X pins σ H s) (r : Vals vs us) (h : sp vs H Q E) : wpAny (model X.prog X.w) X.A (call (.ref f) us) (EP X pins σ Q) X.xe s := by
  have hl : us.length = ps.length := r.length.symm.trans (F.len _ _ _ _ h)
  have b := hb s us I.kIn (by rw [List.append_nil]; exact hl)
  rw [List.append_nil] at b
  refine wpAny_call (codeAny_mono (F.run X.A X.stack s H ⟨us, []⟩ us vs Q E hr I.env0 b r h) ?_)
  rintro (e | fl) s' hq
  · exact hx pins H s e s' I hq
  · cases fl with
    | ret u => exact I.after hq
    | _ => exact False.elim hq
theorem u_callQ (F : FnQ X.prog X.w X.K X.mg X.base j f fd ps (spD X.K (clOf X.mg) g)) (hr : RoomH j X.A) (hm : X.mg x = some (.ref f)) (hk : PySem.W.keepIn X.K (.ref f) = true) (hb : Binds X.K fd ps []) (tk : Takes X W)
    (ha : UA X W re te (a :: es)) (hg : Gl X x := by rfl) (hdb : (x == ("__debug__" : Str)) = false := by decide) (he : starEach (a :: es) X.env = (false, eval a X.env) :: starEach es X.env := by rfl) (hpl : (backTo pos (starEach es X.env)).any (·.1) = false := by rfl) :
    UE X W (tCallS (spD X.K (clOf X.mg) g) (WE W) re) (dCall g te) (.Call (.Name x p) (a :: es) [] pos) := by
  refine ⟨⟨fun pins s σ H Q I h => ?_⟩, sn_call ha.sn⟩
  refine wpAny_Call_Name_kw (ld_glob I hg hm (PySem.W.callWith_K (h₀ := X.base) I.ok.mod.kin hk (thn (ha.pa.run pos pins s σ H _ I h) ?_) he hpl) hdb)
  rintro us s1 ⟨vs, H1, I1, r, q⟩
  exact ⟨I1.kIn, run_fnQ F hr hb (passAt tk σ) I1 r q⟩
theorem roomS {k : Nat} {A : Around} {v : Option Value} (r : Room k A) {j : Nat} (h : j ≤ k) : RoomH j (A.mark v) := ⟨by have := r.dp; show A.depth + 3 * j + 5 < _; omega, by have := r.un; show A.units + 16 * j + 200 < _; omega⟩
end
/-- what is known of such a def -/
structure CeQ (P : Program) (w : World) (K : PySem.W.Frag) (mg : Str → Option Value) (base : Heap) (j : Nat) (x : Str) (ps : List Str) (g : Fn) (f : Addr) (fd : FuncData) : Prop where
  ok : FnQ P w K mg base j f fd ps (spD K (clOf mg) g)
  g : mg x = some (.ref f)
  k : PySem.W.keepIn K (.ref f) = true
  b : Binds K fd ps []
end G
namespace K00
open PySem PySem.Spec PyProof.Rows L2 G
abbrev FD (K : PySem.W.Frag) (x : Str) (i : Nat) (f : Addr) (fd : FuncData) : Prop := FunD K x x (defArgs (top i)) (defBody (top i)) (defScope (top i)) [] [] f fd
theorem ev_BadText : XN.EvN xd_BadText.qual xd_BadText.a xd_BadText.q xp_BadText := fun _ _ _ _ _ _ _ _ _ _ => ⟨_, rfl⟩
theorem bi_BadText : ∀ us : List Value, us.length = xp_BadText.length → XN.BiN xd_BadText.qual xd_BadText.a xd_BadText.q xp_BadText us [] us := fun us h => match us, h with | [_], _ => fun _ _ _ _ _ _ _ => by first | rfl | with_unfolding_all rfl | kernel_rfl
theorem ev_BadTally : XN.EvN xd_BadTally.qual xd_BadTally.a xd_BadTally.q xp_BadTally := fun _ _ _ _ _ _ _ _ _ _ => ⟨_, rfl⟩
theorem bi_BadTally : ∀ us : List Value, us.length = xp_BadTally.length → XN.BiN xd_BadTally.qual xd_BadTally.a xd_BadTally.q xp_BadTally us [] us := fun us h => match us, h with | [_], _ => fun _ _ _ _ _ _ _ => by first | rfl | with_unfolding_all rfl | kernel_rfl
theorem ev_BadRewriter : XN.EvN xd_BadRewriter.qual xd_BadRewriter.a xd_BadRewriter.q xp_BadRewriter := fun _ _ _ _ _ _ _ _ _ _ => ⟨_, rfl⟩
theorem bi_BadRewriter : ∀ us : List Value, us.length = xp_BadRewriter.length → XN.BiN xd_BadRewriter.qual xd_BadRewriter.a xd_BadRewriter.q xp_BadRewriter us [] us := fun us h => match us, h with | [_], _ => fun _ _ _ _ _ _ _ => by first | rfl | with_unfolding_all rfl | kernel_rfl
theorem ev_BadTicket : XN.EvN xd_BadTicket.qual xd_BadTicket.a xd_BadTicket.q xp_BadTicket := fun _ _ _ _ _ _ _ _ _ _ => ⟨_, rfl⟩
theorem bi_BadTicket : ∀ us : List Value, us.length = xp_BadTicket.length → XN.BiN xd_BadTicket.qual xd_BadTicket.a xd_BadTicket.q xp_BadTicket us [] us := fun us h => match us, h with | [_], _ => fun _ _ _ _ _ _ _ => by first | rfl | with_unfolding_all rfl | kernel_rfl
theorem ev_Unbounded : XN.EvN xd_Unbounded.qual xd_Unbounded.a xd_Unbounded.q xp_Unbounded := fun _ _ _ _ _ _ _ _ _ _ => ⟨_, rfl⟩
theorem bi_Unbounded : ∀ us : List Value, us.length = xp_Unbounded.length → XN.BiN xd_Unbounded.qual xd_Unbounded.a xd_Unbounded.q xp_Unbounded us [] us := fun us h => match us, h with | [_], _ => fun _ _ _ _ _ _ _ => by first | rfl | with_unfolding_all rfl | kernel_rfl
theorem ev_DoesDouble : XN.EvN xd_DoesDouble.qual xd_DoesDouble.a xd_DoesDouble.q xp_DoesDouble := fun _ _ _ _ _ _ _ _ _ _ => ⟨_, rfl⟩
theorem bi_DoesDouble : ∀ us : List Value, us.length = xp_DoesDouble.length → XN.BiN xd_DoesDouble.qual xd_DoesDouble.a xd_DoesDouble.q xp_DoesDouble us [] us := fun us h => match us, h with | [_], _ => fun _ _ _ _ _ _ _ => by first | rfl | with_unfolding_all rfl | kernel_rfl
theorem ev_CannotBe : XN.EvN xd_CannotBe.qual xd_CannotBe.a xd_CannotBe.q xp_CannotBe := fun _ _ _ _ _ _ _ _ _ _ => ⟨_, rfl⟩
theorem bi_CannotBe : ∀ us : List Value, us.length = xp_CannotBe.length → XN.BiN xd_CannotBe.qual xd_CannotBe.a xd_CannotBe.q xp_CannotBe us [] us := fun us h => match us, h with | [_], _ => fun _ _ _ _ _ _ _ => by first | rfl | with_unfolding_all rfl | kernel_rfl
theorem ev_BadTold : XN.EvN xd_BadTold.qual xd_BadTold.a xd_BadTold.q xp_BadTold := fun _ _ _ _ _ _ _ _ _ _ => ⟨_, rfl⟩
theorem bi_BadTold : ∀ us : List Value, us.length = xp_BadTold.length → XN.BiN xd_BadTold.qual xd_BadTold.a xd_BadTold.q xp_BadTold us [] us := fun us h => match us, h with | [_], _ => fun _ _ _ _ _ _ _ => by first | rfl | with_unfolding_all rfl | kernel_rfl
theorem ev_BadName : XN.EvN xd_BadName.qual xd_BadName.a xd_BadName.q xp_BadName := fun _ _ _ _ _ _ _ _ _ _ => ⟨_, rfl⟩
theorem bi_BadName : ∀ us : List Value, us.length = xp_BadName.length → XN.BiN xd_BadName.qual xd_BadName.a xd_BadName.q xp_BadName us [] us := fun us h => match us, h with | [_], _ => fun _ _ _ _ _ _ _ => by first | rfl | with_unfolding_all rfl | kernel_rfl
theorem ev_BadDigit : XN.EvN xd_BadDigit.qual xd_BadDigit.a xd_BadDigit.q xp_BadDigit := fun _ _ _ _ _ _ _ _ _ _ => ⟨_, rfl⟩
theorem bi_BadDigit : ∀ us : List Value, us.length = xp_BadDigit.length → XN.BiN xd_BadDigit.qual xd_BadDigit.a xd_BadDigit.q xp_BadDigit us [] us := fun us h => match us, h with | [_], _ => fun _ _ _ _ _ _ _ => by first | rfl | with_unfolding_all rfl | kernel_rfl
theorem ev_NoName : XN.EvN xd_NoName.qual xd_NoName.a xd_NoName.q xp_NoName := fun _ _ _ _ _ _ _ _ _ _ => ⟨_, rfl⟩
theorem bi_NoName : ∀ us : List Value, us.length = xp_NoName.length → XN.BiN xd_NoName.qual xd_NoName.a xd_NoName.q xp_NoName us [] us := fun us h => match us, h with | [_], _ => fun _ _ _ _ _ _ _ => by first | rfl | with_unfolding_all rfl | kernel_rfl
theorem ev_NameTaken : XN.EvN xd_NameTaken.qual xd_NameTaken.a xd_NameTaken.q xp_NameTaken := fun _ _ _ _ _ _ _ _ _ _ => ⟨_, rfl⟩
theorem bi_NameTaken : ∀ us : List Value, us.length = xp_NameTaken.length → XN.BiN xd_NameTaken.qual xd_NameTaken.a xd_NameTaken.q xp_NameTaken us [] us := fun us h => match us, h with | [_], _ => fun _ _ _ _ _ _ _ => by first | rfl | with_unfolding_all rfl | kernel_rfl
theorem ev_NoPromise : XN.EvN xd_NoPromise.qual xd_NoPromise.a xd_NoPromise.q xp_NoPromise := fun _ _ _ _ _ _ _ _ _ _ => ⟨_, rfl⟩
theorem bi_NoPromise : ∀ us : List Value, us.length = xp_NoPromise.length → XN.BiN xd_NoPromise.qual xd_NoPromise.a xd_NoPromise.q xp_NoPromise us [] us := fun us h => match us, h with | [_], _ => fun _ _ _ _ _ _ _ => by first | rfl | with_unfolding_all rfl | kernel_rfl
theorem ev_BadPromise : XN.EvN xd_BadPromise.qual xd_BadPromise.a xd_BadPromise.q xp_BadPromise := fun _ _ _ _ _ _ _ _ _ _ => ⟨_, rfl⟩
theorem bi_BadPromise : ∀ us : List Value, us.length = xp_BadPromise.length → XN.BiN xd_BadPromise.qual xd_BadPromise.a xd_BadPromise.q xp_BadPromise us [] us := fun us h => match us, h with | [_], _ => fun _ _ _ _ _ _ _ => by first | rfl | with_unfolding_all rfl | kernel_rfl
theorem ev_SoldBefore : XN.EvN xd_SoldBefore.qual xd_SoldBefore.a xd_SoldBefore.q xp_SoldBefore := fun _ _ _ _ _ _ _ _ _ _ => ⟨_, rfl⟩
theorem bi_SoldBefore : ∀ us : List Value, us.length = xp_SoldBefore.length → XN.BiN xd_SoldBefore.qual xd_SoldBefore.a xd_SoldBefore.q xp_SoldBefore us [] us := fun us h => match us, h with | [_], _ => fun _ _ _ _ _ _ _ => by first | rfl | with_unfolding_all rfl | kernel_rfl
theorem ev_BadDeed : XN.EvN xd_BadDeed.qual xd_BadDeed.a xd_BadDeed.q xp_BadDeed := fun _ _ _ _ _ _ _ _ _ _ => ⟨_, rfl⟩
theorem bi_BadDeed : ∀ us : List Value, us.length = xp_BadDeed.length → XN.BiN xd_BadDeed.qual xd_BadDeed.a xd_BadDeed.q xp_BadDeed us [] us := fun us h => match us, h with | [_], _ => fun _ _ _ _ _ _ _ => by first | rfl | with_unfolding_all rfl | kernel_rfl
theorem ev_NotSold : XN.EvN xd_NotSold.qual xd_NotSold.a xd_NotSold.q xp_NotSold := fun _ _ _ _ _ _ _ _ _ _ => ⟨_, rfl⟩
theorem bi_NotSold : ∀ us : List Value, us.length = xp_NotSold.length → XN.BiN xd_NotSold.qual xd_NotSold.a xd_NotSold.q xp_NotSold us [] us := fun us h => match us, h with | [_], _ => fun _ _ _ _ _ _ _ => by first | rfl | with_unfolding_all rfl | kernel_rfl
theorem ev_Unkept : XN.EvN xd_Unkept.qual xd_Unkept.a xd_Unkept.q xp_Unkept := fun _ _ _ _ _ _ _ _ _ _ => ⟨_, rfl⟩
theorem bi_Unkept : ∀ us : List Value, us.length = xp_Unkept.length → XN.BiN xd_Unkept.qual xd_Unkept.a xd_Unkept.q xp_Unkept us [] us := fun us h => match us, h with | [_, _, _], _ => fun _ _ _ _ _ _ _ => by first | rfl | with_unfolding_all rfl | kernel_rfl
theorem ev_NoStretch : XN.EvN xd_NoStretch.qual xd_NoStretch.a xd_NoStretch.q xp_NoStretch := fun _ _ _ _ _ _ _ _ _ _ => ⟨_, rfl⟩
theorem bi_NoStretch : ∀ us : List Value, us.length = xp_NoStretch.length → XN.BiN xd_NoStretch.qual xd_NoStretch.a xd_NoStretch.q xp_NoStretch us [] us := fun us h => match us, h with | [_, _], _ => fun _ _ _ _ _ _ _ => by first | rfl | with_unfolding_all rfl | kernel_rfl
theorem ev_Needed : XN.EvN xd_Needed.qual xd_Needed.a xd_Needed.q xp_Needed := fun _ _ _ _ _ _ _ _ _ _ => ⟨_, rfl⟩
theorem bi_Needed : ∀ us : List Value, us.length = xp_Needed.length → XN.BiN xd_Needed.qual xd_Needed.a xd_Needed.q xp_Needed us [] us := fun us h => match us, h with | [_, _], _ => fun _ _ _ _ _ _ _ => by first | rfl | with_unfolding_all rfl | kernel_rfl
def d__law_deck_0 : MS := (sPar 2 3 (dCons (dCallB (one lstsD) (dCons (dSlice (dVar 0) (ep none) (eb (ep (.int 63)) fun d => eo (intOf d))) dNil)) (dCons (ep (.int 10870000)) dNil)))
def d__law_deck_1_b : MS := (sAsg (dOp modD (dCallB (one intD) (dCons (dOp addD (dOp addD (dOp mulsD (dVar 3) (ep (.int 39373))) (dOp modD (dCallB (one intD) (dCons (dVar 1) dNil)) (ep (.int 2147483629)))) (ep (.int 211))) dNil)) (ep (.int 2147483587))) (mName 3))
def d__law_deck_1 : MS := (sFor (dItems (dVar 2)) (mName 1) d__law_deck_1_b)
def d__law_deck_2 : MS := (sRet (dDict (dPair (ep (.str "cells")) (dUn revD (dVar 2)) (dPair (ep (.str "mixed")) (dVar 3) (dPair (ep (.str "turn")) (ep (.int 0)) (ep []))))))
theorem sc__law_deck : FnScope ["_law_script", "_law_cell", "_law_cells", "_law_mixed"] ["_law_script"] (defScope (top 29)) := ⟨rfl, rfl, rfl, by decide +kernel, rfl, by decide +kernel, by decide +kernel⟩
def d__law_deck : MS := (ss d__law_deck_0
    (ss d__law_deck_1
    d__law_deck_2))
def fn__law_deck : Fn := fnDen 1 4 d__law_deck
theorem ok__law_deck {P : Program} {w : World} {K : PySem.W.Frag} {mg : Str → Option Value} {base : Heap} {f : Addr} {fd : FuncData} (m_list : mg "list" = none) (m_int : mg "int" = none) (F : FD K "_law_deck" 29 f fd) : FnG P w K mg base 1 f fd ["_law_script"] (spD K (clOf mg) fn__law_deck) :=
  fn_okD F sc__law_deck fun cdv A outer s H E gd hr => ⟨_, (us_cons (us_par (i := 2) (j := 3) (by rfl) sc__law_deck.nd (ua_cons (u_callTy (call_lists rfl) sn_lists (by rfl) m_list (by decide +kernel) (ua_cons (u_slice (u_var 0 (pv 0)) uo_none (uo_some u_int)) ua_nil)) (ua_cons u_int ua_nil)))
    (us_cons (us_for (passes_of rfl) (by rfl) (ui_any (u_var 2 (pv 2))) (ug_name (i := 1) sc__law_deck.nd) (us_one (us_set (i := 3) sc__law_deck.nd (u_op op_mod sn_mod (u_callTy call_int1 sn_int (by rfl) m_int (by decide +kernel) (ua_cons (u_op op_adds sn_add (u_op op_adds sn_add (u_op op_muls sn_muls (u_var 3 (pv 3)) u_int) (u_op op_mod sn_mod (u_callTy call_int1 sn_int (by rfl) m_int (by decide +kernel) (ua_cons (u_var 1 (pv 1)) ua_nil)) u_int)) u_int) ua_nil)) u_int))))
    (us_one (us_ret (u_dict (ups_cons u_str (u_revS (u_var 2 (pv 2))) (ups_cons u_str (u_var 3 (pv 3)) (ups_cons u_str u_int ups_nil))))))))⟩
theorem sc__law_bare : FnScope [] [] (defScope (top 36)) := ⟨rfl, rfl, rfl, by decide +kernel, rfl, by decide +kernel, by decide +kernel⟩
def d__law_bare : ME D := (dLst (dCons (dExc0 "OtherDigits") (dCons (dExc0 "OtherTally") (dCons (dExc0 "OtherRoll") (dCons (dExc0 "NothingToUndo") (dCons (dExc0 "NothingToRedo") (dCons (dExc0 "InvalidCommand") dNil)))))))
def fn__law_bare : Fn := fnFr 0 0 d__law_bare
theorem ok__law_bare {P : Program} {w : World} {K : PySem.W.Frag} {mg : Str → Option Value} {base : Heap} {f : Addr} {fd : FuncData} {C_InvalidCommand : Addr} {C_NothingToRedo : Addr} {C_NothingToUndo : Addr} {C_OtherRoll : Addr} {C_OtherTally : Addr} {C_OtherDigits : Addr} (xo_InvalidCommand : ExcO K mg "InvalidCommand" C_InvalidCommand) (xo_NothingToRedo : ExcO K mg "NothingToRedo" C_NothingToRedo) (xo_NothingToUndo : ExcO K mg "NothingToUndo" C_NothingToUndo) (xo_OtherRoll : ExcO K mg "OtherRoll" C_OtherRoll) (xo_OtherTally : ExcO K mg "OtherTally" C_OtherTally) (xo_OtherDigits : ExcO K mg "OtherDigits" C_OtherDigits) (F : FD K "_law_bare" 36 f fd) : FnG P w K mg base 1 f fd [] (spF K (clOf mg) fn__law_bare) :=
  fn_okF F sc__law_bare fun cdv A outer s H E gd hr => ⟨_, (uf_lst (ua_cons (u_exc0 xo_OtherDigits) (ua_cons (u_exc0 xo_OtherTally) (ua_cons (u_exc0 xo_OtherRoll) (ua_cons (u_exc0 xo_NothingToUndo) (ua_cons (u_exc0 xo_NothingToRedo) (ua_cons (u_exc0 xo_InvalidCommand) ua_nil)))))))⟩
def d__law_draw_0 : MS := (sDkSet "turn" (dVar 0) (dOp addD (dkGet "turn" (dVar 0)) (ep (.int 1))))
def d__law_draw_1 : MS := (sAsg (dOp addD (dkGet "mixed" (dVar 0)) (dOp mulsD (dOp mulsD (ep (.int 60221)) (dkGet "turn" (dVar 0))) (dkGet "turn" (dVar 0)))) (mName 2))
def d__law_draw_2 : MS := (sIf (dB (dkHas (dVar 0))) (ss (sAsg (dkPop (dVar 0)) (mName 3))
    (ss (sIf (dB (dOp geD (dVar 3) (dOp powD (ep (.int 10)) (ep (.int 18))))) (ss (sDkApp (dVar 0) (dOp fdivD (dVar 3) (dVar 1)))
    (sRet (dOp modD (dCallB (one intD) (dCons (dVar 3) dNil)) (dVar 1)))) sNx)
    (sAsg (dOp addD (dVar 2) (dCallB (one intD) (dCons (dVar 3) dNil))) (mName 2)))) sNx)
def d__law_draw_3 : MS := (sAsg (dOp modD (dOp mulsD (dCallB (one intD) (dCons (dOp addD (dOp modD (dCallB (one intD) (dCons (dVar 2) dNil)) (ep (.int 2147483579))) (ep (.int 211))) dNil)) (ep (.int 48271))) (ep (.int 2147483647))) (mName 2))
def d__law_draw_4 : MS := (sAsg (dOp modD (dCallB (one intD) (dCons (dOp addD (dOp addD (dOp mulsD (dVar 2) (dVar 2)) (dOp mulsD (ep (.int 69621)) (dkGet "turn" (dVar 0)))) (ep (.int 29))) dNil)) (ep (.int 2147483563))) (mName 2))
def d__law_draw_5 : MS := (sRet (dOp modD (dOp fdivD (dOp modD (dCallB (one intD) (dCons (dOp mulsD (dVar 2) (ep (.int 40692))) dNil)) (ep (.int 2147483587))) (ep (.int 64))) (dVar 1)))
theorem sc__law_draw : FnScope ["_law_deck_here", "_law_many", "_law_figure", "_law_cell"] ["_law_deck_here", "_law_many"] (defScope (top 30)) := ⟨rfl, rfl, rfl, by decide +kernel, rfl, by decide +kernel, by decide +kernel⟩
def d__law_draw : MS := (ss d__law_draw_0
    (ss d__law_draw_1
    (ss d__law_draw_2
    (ss d__law_draw_3
    (ss d__law_draw_4
    d__law_draw_5)))))
def fn__law_draw : Fn := fnDen 2 4 d__law_draw
theorem ok__law_draw {P : Program} {w : World} {K : PySem.W.Frag} {mg : Str → Option Value} {base : Heap} {f : Addr} {fd : FuncData} (m_int : mg "int" = none) (F : FD K "_law_draw" 30 f fd) : FnG P w K mg base 1 f fd ["_law_deck_here", "_law_many"] (spD K (clOf mg) fn__law_draw) :=
  fn_okD F sc__law_draw fun cdv A outer s H E gd hr => ⟨_, (us_cons (us_dkSet (hu1 hr) (u_var 0 (pv 0)) (u_op op_adds sn_add (u_dkGet (hu1 hr) (u_var 0 (pv 0))) u_int))
    (us_cons (us_set (i := 2) sc__law_draw.nd (u_op op_adds sn_add (u_dkGet (hu1 hr) (u_var 0 (pv 0))) (u_op op_muls sn_muls (u_op op_muls sn_muls u_int (u_dkGet (hu1 hr) (u_var 0 (pv 0)))) (u_dkGet (hu1 hr) (u_var 0 (pv 0))))))
    (us_cons (us_if (ut_dkHas (hu64 hr) (u_var 0 (pv 0))) (us_cons (us_set (i := 3) sc__law_draw.nd (u_dkPop (hu1 hr) (u_var 0 (pv 0))))
    (us_cons (us_if (ut_cmp op_ge sn_ge (u_var 3 (pv 3)) (u_op op_pow sn_pow u_int u_int) (nomark _)) (us_cons (us_dkApp (hu1 hr) (u_var 0 (pv 0)) (u_op op_fdivW sn_fdiv (u_var 3 (pv 3)) (u_var 1 (pv 1))))
    (us_one (us_ret (u_op op_mod sn_mod (u_callTy call_int1 sn_int (by rfl) m_int (by decide +kernel) (ua_cons (u_var 3 (pv 3)) ua_nil)) (u_var 1 (pv 1)))))) us_nil)
    (us_one (us_set (i := 2) sc__law_draw.nd (u_op op_adds sn_add (u_var 2 (pv 2)) (u_callTy call_int1 sn_int (by rfl) m_int (by decide +kernel) (ua_cons (u_var 3 (pv 3)) ua_nil))))))) us_nil)
    (us_cons (us_set (i := 2) sc__law_draw.nd (u_op op_mod sn_mod (u_op op_muls sn_muls (u_callTy call_int1 sn_int (by rfl) m_int (by decide +kernel) (ua_cons (u_op op_adds sn_add (u_op op_mod sn_mod (u_callTy call_int1 sn_int (by rfl) m_int (by decide +kernel) (ua_cons (u_var 2 (pv 2)) ua_nil)) u_int) u_int) ua_nil)) u_int) u_int))
    (us_cons (us_set (i := 2) sc__law_draw.nd (u_op op_mod sn_mod (u_callTy call_int1 sn_int (by rfl) m_int (by decide +kernel) (ua_cons (u_op op_adds sn_add (u_op op_adds sn_add (u_op op_muls sn_muls (u_var 2 (pv 2)) (u_var 2 (pv 2))) (u_op op_muls sn_muls u_int (u_dkGet (hu1 hr) (u_var 0 (pv 0))))) u_int) ua_nil)) u_int))
    (us_one (us_ret (u_op op_mod sn_mod (u_op op_fdivW sn_fdiv (u_op op_mod sn_mod (u_callTy call_int1 sn_int (by rfl) m_int (by decide +kernel) (ua_cons (u_op op_muls sn_muls (u_var 2 (pv 2)) u_int) ua_nil)) u_int) u_int) (u_var 1 (pv 1))))))))))⟩
def d__law_pick_0 : MS := (sRet (dOp ixD (dVar 1) (dCall fn__law_draw (dCons (dVar 0) (dCons (dCallB (one lenD) (dCons (dVar 1) dNil)) dNil)))))
theorem sc__law_pick : FnScope ["_law_deck_here", "_law_some"] ["_law_deck_here", "_law_some"] (defScope (top 31)) := ⟨rfl, rfl, rfl, by decide +kernel, rfl, by decide +kernel, by decide +kernel⟩
def d__law_pick : MS := d__law_pick_0
def fn__law_pick : Fn := fnDen 2 2 d__law_pick
theorem ok__law_pick {P : Program} {w : World} {K : PySem.W.Frag} {mg : Str → Option Value} {base : Heap} {f : Addr} {fd : FuncData} {a__law_draw : Addr} {e__law_draw : FuncData} (c__law_draw : Ce P w K mg base 1 "_law_draw" ["_law_deck_here", "_law_many"] fn__law_draw a__law_draw e__law_draw) (m_len : mg "len" = none) (F : FD K "_law_pick" 31 f fd) : FnG P w K mg base 2 f fd ["_law_deck_here", "_law_some"] (spD K (clOf mg) fn__law_pick) :=
  fn_okD F sc__law_pick fun cdv A outer s H E gd hr => ⟨_, (us_one (us_ret (u_ix (u_var 1 (pv 1)) (u_call c__law_draw.ok gd (hr.mono (by decide)) c__law_draw.g c__law_draw.k c__law_draw.b (takes_of rfl rfl rfl rfl) (ua_cons (u_var 0 (pv 0)) (ua_cons (u_callB call_lens sn_len (by rfl) m_len PySem.boot_len (ua_cons (u_var 1 (pv 1)) ua_nil)) ua_nil))))))⟩
def d__law_value_0 : MS := (sAsg (dLst (dCons (ep .non) (dCons (ep (.bl true)) (dCons (ep (.int 0)) (dCons (ep (.int 1)) (dCons (dUn negD (ep (.int 1))) (dCons (dOp powD (ep (.int 10)) (ep (.int 39))) (dCons (ep (.str "")) (dCons (ep (.str "ends")) (dCons (ep (.str "tally 01")) (dCons (ep (.str "01")) (dCons (dTup dNil) (dCons (dTup (dCons (ep (.int 0)) (dCons (ep (.str "1")) dNil))) (dCons (dLst (dCons (ep (.int 1)) dNil)) (dCons (ep (.dct [])) (dCons (dTup (dCons (ep (.str "ever")) (dCons (ep (.str "")) (dCons (ep (.str "1")) (dCons (ep (.str "")) dNil))))) dNil)))))))))))))))) (mName 1))
def d__law_value_1 : MS := (sRet (dCall fn__law_pick (dCons (dVar 0) (dCons (dOp addD (dVar 1) (dLst (dCons (dCallB (one strD) (dCons (dCall fn__law_draw (dCons (dVar 0) (dCons (ep (.int 1000)) dNil))) dNil)) (dCons (dCall fn__law_draw (dCons (dVar 0) (dCons (ep (.int 1000)) dNil))) (dCons (dTup (dCons (ep (.str "rank")) (dCons (dCall fn__law_draw (dCons (dVar 0) (dCons (ep (.int 9)) dNil))) dNil))) dNil))))) dNil))))
theorem sc__law_value : FnScope ["_law_deck_here", "_law_some"] ["_law_deck_here"] (defScope (top 32)) := ⟨rfl, rfl, rfl, by decide +kernel, rfl, by decide +kernel, by decide +kernel⟩
def d__law_value : MS := (ss d__law_value_0
    d__law_value_1)
def fn__law_value : Fn := fnDen 1 2 d__law_value
theorem ok__law_value {P : Program} {w : World} {K : PySem.W.Frag} {mg : Str → Option Value} {base : Heap} {f : Addr} {fd : FuncData} {a__law_pick : Addr} {e__law_pick : FuncData} {a__law_draw : Addr} {e__law_draw : FuncData} (c__law_pick : Ce P w K mg base 2 "_law_pick" ["_law_deck_here", "_law_some"] fn__law_pick a__law_pick e__law_pick) (c__law_draw : Ce P w K mg base 1 "_law_draw" ["_law_deck_here", "_law_many"] fn__law_draw a__law_draw e__law_draw) (m_str : mg "str" = none) (F : FD K "_law_value" 32 f fd) : FnG P w K mg base 3 f fd ["_law_deck_here"] (spD K (clOf mg) fn__law_value) :=
  fn_okD F sc__law_value fun cdv A outer s H E gd hr => ⟨_, (us_cons (us_set (i := 1) sc__law_value.nd (u_lst (ua_cons u_non (ua_cons u_bl (ua_cons u_int (ua_cons u_int (ua_cons (u_neg' u_int) (ua_cons (u_op op_pow sn_pow u_int u_int) (ua_cons u_str (ua_cons u_str (ua_cons u_str (ua_cons u_str (ua_cons (u_tup ua_nil) (ua_cons (u_tup (ua_cons u_int (ua_cons u_str ua_nil))) (ua_cons (u_lst (ua_cons u_int ua_nil)) (ua_cons u_dict0 (ua_cons (u_tup (ua_cons u_str (ua_cons u_str (ua_cons u_str (ua_cons u_str ua_nil))))) ua_nil)))))))))))))))))
    (us_one (us_ret (u_call c__law_pick.ok gd (hr.mono (by decide)) c__law_pick.g c__law_pick.k c__law_pick.b (takes_of rfl rfl rfl rfl) (ua_cons (u_var 0 (pv 0)) (ua_cons (u_op op_adds sn_add (u_var 1 (pv 1)) (u_lst (ua_cons (u_callTy call_str_int sn_str (by rfl) m_str (by decide +kernel) (ua_cons (u_call c__law_draw.ok gd (hr.mono (by decide)) c__law_draw.g c__law_draw.k c__law_draw.b (takes_of rfl rfl rfl rfl) (ua_cons (u_var 0 (pv 0)) (ua_cons u_int ua_nil))) ua_nil)) (ua_cons (u_call c__law_draw.ok gd (hr.mono (by decide)) c__law_draw.g c__law_draw.k c__law_draw.b (takes_of rfl rfl rfl rfl) (ua_cons (u_var 0 (pv 0)) (ua_cons u_int ua_nil))) (ua_cons (u_tup (ua_cons u_str (ua_cons (u_call c__law_draw.ok gd (hr.mono (by decide)) c__law_draw.g c__law_draw.k c__law_draw.b (takes_of rfl rfl rfl rfl) (ua_cons (u_var 0 (pv 0)) (ua_cons u_int ua_nil))) ua_nil))) ua_nil))))) ua_nil))))))⟩
theorem bk_BadText_0 : ∀ us : List Value, us.length = (["line"] : List Str).length → ∃ vs : List Value, vs.length = xp_BadText.length ∧ XN.BiN xd_BadText.qual xd_BadText.a xd_BadText.q xp_BadText [] ((["line"] : List Str).zip us) vs ∧ ∀ f, ((xp_BadText.map (·.p)).zip vs).reverse.lookup f = ((["line"] : List Str).zip us).reverse.lookup f := fun us h => match us, h with
  | [u0], _ => ⟨[u0], rfl, fun _ _ _ _ _ _ _ => by first | rfl | with_unfolding_all rfl | kernel_rfl, fun f => by
      by_cases h0 : f = "line"
      · subst h0; rfl
      show List.lookup f [("line", u0)] = List.lookup f [("line", u0)]
      simp only [List.lookup_cons, List.lookup_nil, show (f == ("line" : Str)) = false by simpa using h0]⟩
theorem bk_BadTally_0 : ∀ us : List Value, us.length = (["part"] : List Str).length → ∃ vs : List Value, vs.length = xp_BadTally.length ∧ XN.BiN xd_BadTally.qual xd_BadTally.a xd_BadTally.q xp_BadTally [] ((["part"] : List Str).zip us) vs ∧ ∀ f, ((xp_BadTally.map (·.p)).zip vs).reverse.lookup f = ((["part"] : List Str).zip us).reverse.lookup f := fun us h => match us, h with
  | [u0], _ => ⟨[u0], rfl, fun _ _ _ _ _ _ _ => by first | rfl | with_unfolding_all rfl | kernel_rfl, fun f => by
      by_cases h0 : f = "part"
      · subst h0; rfl
      show List.lookup f [("part", u0)] = List.lookup f [("part", u0)]
      simp only [List.lookup_cons, List.lookup_nil, show (f == ("part" : Str)) = false by simpa using h0]⟩
theorem bk_BadRewriter_0 : ∀ us : List Value, us.length = (["part"] : List Str).length → ∃ vs : List Value, vs.length = xp_BadRewriter.length ∧ XN.BiN xd_BadRewriter.qual xd_BadRewriter.a xd_BadRewriter.q xp_BadRewriter [] ((["part"] : List Str).zip us) vs ∧ ∀ f, ((xp_BadRewriter.map (·.p)).zip vs).reverse.lookup f = ((["part"] : List Str).zip us).reverse.lookup f := fun us h => match us, h with
  | [u0], _ => ⟨[u0], rfl, fun _ _ _ _ _ _ _ => by first | rfl | with_unfolding_all rfl | kernel_rfl, fun f => by
      by_cases h0 : f = "part"
      · subst h0; rfl
      show List.lookup f [("part", u0)] = List.lookup f [("part", u0)]
      simp only [List.lookup_cons, List.lookup_nil, show (f == ("part" : Str)) = false by simpa using h0]⟩
theorem bk_BadTicket_0 : ∀ us : List Value, us.length = (["ticket"] : List Str).length → ∃ vs : List Value, vs.length = xp_BadTicket.length ∧ XN.BiN xd_BadTicket.qual xd_BadTicket.a xd_BadTicket.q xp_BadTicket [] ((["ticket"] : List Str).zip us) vs ∧ ∀ f, ((xp_BadTicket.map (·.p)).zip vs).reverse.lookup f = ((["ticket"] : List Str).zip us).reverse.lookup f := fun us h => match us, h with
  | [u0], _ => ⟨[u0], rfl, fun _ _ _ _ _ _ _ => by first | rfl | with_unfolding_all rfl | kernel_rfl, fun f => by
      by_cases h0 : f = "ticket"
      · subst h0; rfl
      show List.lookup f [("ticket", u0)] = List.lookup f [("ticket", u0)]
      simp only [List.lookup_cons, List.lookup_nil, show (f == ("ticket" : Str)) = false by simpa using h0]⟩
theorem bk_Unbounded_0 : ∀ us : List Value, us.length = (["paper"] : List Str).length → ∃ vs : List Value, vs.length = xp_Unbounded.length ∧ XN.BiN xd_Unbounded.qual xd_Unbounded.a xd_Unbounded.q xp_Unbounded [] ((["paper"] : List Str).zip us) vs ∧ ∀ f, ((xp_Unbounded.map (·.p)).zip vs).reverse.lookup f = ((["paper"] : List Str).zip us).reverse.lookup f := fun us h => match us, h with
  | [u0], _ => ⟨[u0], rfl, fun _ _ _ _ _ _ _ => by first | rfl | with_unfolding_all rfl | kernel_rfl, fun f => by
      by_cases h0 : f = "paper"
      · subst h0; rfl
      show List.lookup f [("paper", u0)] = List.lookup f [("paper", u0)]
      simp only [List.lookup_cons, List.lookup_nil, show (f == ("paper" : Str)) = false by simpa using h0]⟩
theorem bk_DoesDouble_0 : ∀ us : List Value, us.length = (["paper"] : List Str).length → ∃ vs : List Value, vs.length = xp_DoesDouble.length ∧ XN.BiN xd_DoesDouble.qual xd_DoesDouble.a xd_DoesDouble.q xp_DoesDouble [] ((["paper"] : List Str).zip us) vs ∧ ∀ f, ((xp_DoesDouble.map (·.p)).zip vs).reverse.lookup f = ((["paper"] : List Str).zip us).reverse.lookup f := fun us h => match us, h with
  | [u0], _ => ⟨[u0], rfl, fun _ _ _ _ _ _ _ => by first | rfl | with_unfolding_all rfl | kernel_rfl, fun f => by
      by_cases h0 : f = "paper"
      · subst h0; rfl
      show List.lookup f [("paper", u0)] = List.lookup f [("paper", u0)]
      simp only [List.lookup_cons, List.lookup_nil, show (f == ("paper" : Str)) = false by simpa using h0]⟩
theorem bk_CannotBe_0 : ∀ us : List Value, us.length = (["paper"] : List Str).length → ∃ vs : List Value, vs.length = xp_CannotBe.length ∧ XN.BiN xd_CannotBe.qual xd_CannotBe.a xd_CannotBe.q xp_CannotBe [] ((["paper"] : List Str).zip us) vs ∧ ∀ f, ((xp_CannotBe.map (·.p)).zip vs).reverse.lookup f = ((["paper"] : List Str).zip us).reverse.lookup f := fun us h => match us, h with
  | [u0], _ => ⟨[u0], rfl, fun _ _ _ _ _ _ _ => by first | rfl | with_unfolding_all rfl | kernel_rfl, fun f => by
      by_cases h0 : f = "paper"
      · subst h0; rfl
      show List.lookup f [("paper", u0)] = List.lookup f [("paper", u0)]
      simp only [List.lookup_cons, List.lookup_nil, show (f == ("paper" : Str)) = false by simpa using h0]⟩
theorem bk_BadTold_0 : ∀ us : List Value, us.length = (["number"] : List Str).length → ∃ vs : List Value, vs.length = xp_BadTold.length ∧ XN.BiN xd_BadTold.qual xd_BadTold.a xd_BadTold.q xp_BadTold [] ((["number"] : List Str).zip us) vs ∧ ∀ f, ((xp_BadTold.map (·.p)).zip vs).reverse.lookup f = ((["number"] : List Str).zip us).reverse.lookup f := fun us h => match us, h with
  | [u0], _ => ⟨[u0], rfl, fun _ _ _ _ _ _ _ => by first | rfl | with_unfolding_all rfl | kernel_rfl, fun f => by
      by_cases h0 : f = "number"
      · subst h0; rfl
      show List.lookup f [("number", u0)] = List.lookup f [("number", u0)]
      simp only [List.lookup_cons, List.lookup_nil, show (f == ("number" : Str)) = false by simpa using h0]⟩
theorem bk_BadName_0 : ∀ us : List Value, us.length = (["name"] : List Str).length → ∃ vs : List Value, vs.length = xp_BadName.length ∧ XN.BiN xd_BadName.qual xd_BadName.a xd_BadName.q xp_BadName [] ((["name"] : List Str).zip us) vs ∧ ∀ f, ((xp_BadName.map (·.p)).zip vs).reverse.lookup f = ((["name"] : List Str).zip us).reverse.lookup f := fun us h => match us, h with
  | [u0], _ => ⟨[u0], rfl, fun _ _ _ _ _ _ _ => by first | rfl | with_unfolding_all rfl | kernel_rfl, fun f => by
      by_cases h0 : f = "name"
      · subst h0; rfl
      show List.lookup f [("name", u0)] = List.lookup f [("name", u0)]
      simp only [List.lookup_cons, List.lookup_nil, show (f == ("name" : Str)) = false by simpa using h0]⟩
theorem bk_BadDigit_0 : ∀ us : List Value, us.length = (["digit"] : List Str).length → ∃ vs : List Value, vs.length = xp_BadDigit.length ∧ XN.BiN xd_BadDigit.qual xd_BadDigit.a xd_BadDigit.q xp_BadDigit [] ((["digit"] : List Str).zip us) vs ∧ ∀ f, ((xp_BadDigit.map (·.p)).zip vs).reverse.lookup f = ((["digit"] : List Str).zip us).reverse.lookup f := fun us h => match us, h with
  | [u0], _ => ⟨[u0], rfl, fun _ _ _ _ _ _ _ => by first | rfl | with_unfolding_all rfl | kernel_rfl, fun f => by
      by_cases h0 : f = "digit"
      · subst h0; rfl
      show List.lookup f [("digit", u0)] = List.lookup f [("digit", u0)]
      simp only [List.lookup_cons, List.lookup_nil, show (f == ("digit" : Str)) = false by simpa using h0]⟩
theorem bk_NoName_0 : ∀ us : List Value, us.length = (["name"] : List Str).length → ∃ vs : List Value, vs.length = xp_NoName.length ∧ XN.BiN xd_NoName.qual xd_NoName.a xd_NoName.q xp_NoName [] ((["name"] : List Str).zip us) vs ∧ ∀ f, ((xp_NoName.map (·.p)).zip vs).reverse.lookup f = ((["name"] : List Str).zip us).reverse.lookup f := fun us h => match us, h with
  | [u0], _ => ⟨[u0], rfl, fun _ _ _ _ _ _ _ => by first | rfl | with_unfolding_all rfl | kernel_rfl, fun f => by
      by_cases h0 : f = "name"
      · subst h0; rfl
      show List.lookup f [("name", u0)] = List.lookup f [("name", u0)]
      simp only [List.lookup_cons, List.lookup_nil, show (f == ("name" : Str)) = false by simpa using h0]⟩
theorem bk_NameTaken_0 : ∀ us : List Value, us.length = (["name"] : List Str).length → ∃ vs : List Value, vs.length = xp_NameTaken.length ∧ XN.BiN xd_NameTaken.qual xd_NameTaken.a xd_NameTaken.q xp_NameTaken [] ((["name"] : List Str).zip us) vs ∧ ∀ f, ((xp_NameTaken.map (·.p)).zip vs).reverse.lookup f = ((["name"] : List Str).zip us).reverse.lookup f := fun us h => match us, h with
  | [u0], _ => ⟨[u0], rfl, fun _ _ _ _ _ _ _ => by first | rfl | with_unfolding_all rfl | kernel_rfl, fun f => by
      by_cases h0 : f = "name"
      · subst h0; rfl
      show List.lookup f [("name", u0)] = List.lookup f [("name", u0)]
      simp only [List.lookup_cons, List.lookup_nil, show (f == ("name" : Str)) = false by simpa using h0]⟩
theorem bk_NoPromise_0 : ∀ us : List Value, us.length = (["promise"] : List Str).length → ∃ vs : List Value, vs.length = xp_NoPromise.length ∧ XN.BiN xd_NoPromise.qual xd_NoPromise.a xd_NoPromise.q xp_NoPromise [] ((["promise"] : List Str).zip us) vs ∧ ∀ f, ((xp_NoPromise.map (·.p)).zip vs).reverse.lookup f = ((["promise"] : List Str).zip us).reverse.lookup f := fun us h => match us, h with
  | [u0], _ => ⟨[u0], rfl, fun _ _ _ _ _ _ _ => by first | rfl | with_unfolding_all rfl | kernel_rfl, fun f => by
      by_cases h0 : f = "promise"
      · subst h0; rfl
      show List.lookup f [("promise", u0)] = List.lookup f [("promise", u0)]
      simp only [List.lookup_cons, List.lookup_nil, show (f == ("promise" : Str)) = false by simpa using h0]⟩
theorem bk_BadPromise_0 : ∀ us : List Value, us.length = (["promise"] : List Str).length → ∃ vs : List Value, vs.length = xp_BadPromise.length ∧ XN.BiN xd_BadPromise.qual xd_BadPromise.a xd_BadPromise.q xp_BadPromise [] ((["promise"] : List Str).zip us) vs ∧ ∀ f, ((xp_BadPromise.map (·.p)).zip vs).reverse.lookup f = ((["promise"] : List Str).zip us).reverse.lookup f := fun us h => match us, h with
  | [u0], _ => ⟨[u0], rfl, fun _ _ _ _ _ _ _ => by first | rfl | with_unfolding_all rfl | kernel_rfl, fun f => by
      by_cases h0 : f = "promise"
      · subst h0; rfl
      show List.lookup f [("promise", u0)] = List.lookup f [("promise", u0)]
      simp only [List.lookup_cons, List.lookup_nil, show (f == ("promise" : Str)) = false by simpa using h0]⟩
theorem bk_SoldBefore_0 : ∀ us : List Value, us.length = (["ticket"] : List Str).length → ∃ vs : List Value, vs.length = xp_SoldBefore.length ∧ XN.BiN xd_SoldBefore.qual xd_SoldBefore.a xd_SoldBefore.q xp_SoldBefore [] ((["ticket"] : List Str).zip us) vs ∧ ∀ f, ((xp_SoldBefore.map (·.p)).zip vs).reverse.lookup f = ((["ticket"] : List Str).zip us).reverse.lookup f := fun us h => match us, h with
  | [u0], _ => ⟨[u0], rfl, fun _ _ _ _ _ _ _ => by first | rfl | with_unfolding_all rfl | kernel_rfl, fun f => by
      by_cases h0 : f = "ticket"
      · subst h0; rfl
      show List.lookup f [("ticket", u0)] = List.lookup f [("ticket", u0)]
      simp only [List.lookup_cons, List.lookup_nil, show (f == ("ticket" : Str)) = false by simpa using h0]⟩
theorem bk_BadDeed_0 : ∀ us : List Value, us.length = (["number"] : List Str).length → ∃ vs : List Value, vs.length = xp_BadDeed.length ∧ XN.BiN xd_BadDeed.qual xd_BadDeed.a xd_BadDeed.q xp_BadDeed [] ((["number"] : List Str).zip us) vs ∧ ∀ f, ((xp_BadDeed.map (·.p)).zip vs).reverse.lookup f = ((["number"] : List Str).zip us).reverse.lookup f := fun us h => match us, h with
  | [u0], _ => ⟨[u0], rfl, fun _ _ _ _ _ _ _ => by first | rfl | with_unfolding_all rfl | kernel_rfl, fun f => by
      by_cases h0 : f = "number"
      · subst h0; rfl
      show List.lookup f [("number", u0)] = List.lookup f [("number", u0)]
      simp only [List.lookup_cons, List.lookup_nil, show (f == ("number" : Str)) = false by simpa using h0]⟩
theorem bk_NotSold_0 : ∀ us : List Value, us.length = (["ticket"] : List Str).length → ∃ vs : List Value, vs.length = xp_NotSold.length ∧ XN.BiN xd_NotSold.qual xd_NotSold.a xd_NotSold.q xp_NotSold [] ((["ticket"] : List Str).zip us) vs ∧ ∀ f, ((xp_NotSold.map (·.p)).zip vs).reverse.lookup f = ((["ticket"] : List Str).zip us).reverse.lookup f := fun us h => match us, h with
  | [u0], _ => ⟨[u0], rfl, fun _ _ _ _ _ _ _ => by first | rfl | with_unfolding_all rfl | kernel_rfl, fun f => by
      by_cases h0 : f = "ticket"
      · subst h0; rfl
      show List.lookup f [("ticket", u0)] = List.lookup f [("ticket", u0)]
      simp only [List.lookup_cons, List.lookup_nil, show (f == ("ticket" : Str)) = false by simpa using h0]⟩
def d__law_made_0 : MS := (sIf (dB (dOp (eqD false) (dVar 0) (ep (.int 0)))) (sRet (dLst (dCons (dTup (dCons (dExcN "BadTally" ["part"] (dCons (dVar 1) dNil)) (dCons (dExcN "BadTally" ["part"] (dCons (dVar 2) dNil)) (dCons (ep (.str "part")) dNil)))) (dCons (dTup (dCons (dExcN "BadText" ["line"] (dCons (dVar 1) dNil)) (dCons (dExcN "BadText" ["line"] (dCons (dVar 2) dNil)) (dCons (ep (.str "line")) dNil)))) dNil)))) sNx)
def d__law_made_1 : MS := (sIf (dB (dOp (eqD false) (dVar 0) (ep (.int 1)))) (sRet (dLst (dCons (dTup (dCons (dExcN "BadTicket" ["ticket"] (dCons (dVar 1) dNil)) (dCons (dExcN "BadTicket" ["ticket"] (dCons (dVar 2) dNil)) (dCons (ep (.str "ticket")) dNil)))) (dCons (dTup (dCons (dExcN "BadRewriter" ["part"] (dCons (dVar 1) dNil)) (dCons (dExcN "BadRewriter" ["part"] (dCons (dVar 2) dNil)) (dCons (ep (.str "part")) dNil)))) dNil)))) sNx)
def d__law_made_2 : MS := (sIf (dB (dOp (eqD false) (dVar 0) (ep (.int 2)))) (sRet (dLst (dCons (dTup (dCons (dExcN "DoesDouble" ["paper"] (dCons (dVar 1) dNil)) (dCons (dExcN "DoesDouble" ["paper"] (dCons (dVar 2) dNil)) (dCons (ep (.str "paper")) dNil)))) (dCons (dTup (dCons (dExcN "Unbounded" ["paper"] (dCons (dVar 1) dNil)) (dCons (dExcN "Unbounded" ["paper"] (dCons (dVar 2) dNil)) (dCons (ep (.str "paper")) dNil)))) dNil)))) sNx)
def d__law_made_3 : MS := (sIf (dB (dOp (eqD false) (dVar 0) (ep (.int 3)))) (sRet (dLst (dCons (dTup (dCons (dExcN "BadTold" ["number"] (dCons (dVar 1) dNil)) (dCons (dExcN "BadTold" ["number"] (dCons (dVar 2) dNil)) (dCons (ep (.str "number")) dNil)))) (dCons (dTup (dCons (dExcN "CannotBe" ["paper"] (dCons (dVar 1) dNil)) (dCons (dExcN "CannotBe" ["paper"] (dCons (dVar 2) dNil)) (dCons (ep (.str "paper")) dNil)))) dNil)))) sNx)
def d__law_made_4 : MS := (sIf (dB (dOp (eqD false) (dVar 0) (ep (.int 4)))) (sRet (dLst (dCons (dTup (dCons (dExcN "BadDigit" ["digit"] (dCons (dVar 1) dNil)) (dCons (dExcN "BadDigit" ["digit"] (dCons (dVar 2) dNil)) (dCons (ep (.str "digit")) dNil)))) (dCons (dTup (dCons (dExcN "BadName" ["name"] (dCons (dVar 1) dNil)) (dCons (dExcN "BadName" ["name"] (dCons (dVar 2) dNil)) (dCons (ep (.str "name")) dNil)))) dNil)))) sNx)
def d__law_made_5 : MS := (sIf (dB (dOp (eqD false) (dVar 0) (ep (.int 5)))) (sRet (dLst (dCons (dTup (dCons (dExcN "NameTaken" ["name"] (dCons (dVar 1) dNil)) (dCons (dExcN "NameTaken" ["name"] (dCons (dVar 2) dNil)) (dCons (ep (.str "name")) dNil)))) (dCons (dTup (dCons (dExcN "NoName" ["name"] (dCons (dVar 1) dNil)) (dCons (dExcN "NoName" ["name"] (dCons (dVar 2) dNil)) (dCons (ep (.str "name")) dNil)))) dNil)))) sNx)
def d__law_made_6 : MS := (sIf (dB (dOp (eqD false) (dVar 0) (ep (.int 6)))) (sRet (dLst (dCons (dTup (dCons (dExcN "BadPromise" ["promise"] (dCons (dVar 1) dNil)) (dCons (dExcN "BadPromise" ["promise"] (dCons (dVar 2) dNil)) (dCons (ep (.str "promise")) dNil)))) (dCons (dTup (dCons (dExcN "NoPromise" ["promise"] (dCons (dVar 1) dNil)) (dCons (dExcN "NoPromise" ["promise"] (dCons (dVar 2) dNil)) (dCons (ep (.str "promise")) dNil)))) dNil)))) sNx)
def d__law_made_7 : MS := (sIf (dB (dOp (eqD false) (dVar 0) (ep (.int 7)))) (sRet (dLst (dCons (dTup (dCons (dExcN "BadDeed" ["number"] (dCons (dVar 1) dNil)) (dCons (dExcN "BadDeed" ["number"] (dCons (dVar 2) dNil)) (dCons (ep (.str "number")) dNil)))) (dCons (dTup (dCons (dExcN "SoldBefore" ["ticket"] (dCons (dVar 1) dNil)) (dCons (dExcN "SoldBefore" ["ticket"] (dCons (dVar 2) dNil)) (dCons (ep (.str "ticket")) dNil)))) dNil)))) sNx)
def d__law_made_8 : MS := (sRet (dLst (dCons (dTup (dCons (dExcN "NotSold" ["ticket"] (dCons (dVar 1) dNil)) (dCons (dExcN "NotSold" ["ticket"] (dCons (dVar 2) dNil)) (dCons (ep (.str "ticket")) dNil)))) dNil)))
theorem sc__law_made : FnScope ["_law_which", "_law_a", "_law_b"] ["_law_which", "_law_a", "_law_b"] (defScope (top 33)) := ⟨rfl, rfl, rfl, by decide +kernel, rfl, by decide +kernel, by decide +kernel⟩
def d__law_made : MS := (ss d__law_made_0
    (ss d__law_made_1
    (ss d__law_made_2
    (ss d__law_made_3
    (ss d__law_made_4
    (ss d__law_made_5
    (ss d__law_made_6
    (ss d__law_made_7
    d__law_made_8))))))))
def fn__law_made : Fn := fnDen 3 3 d__law_made
theorem ok__law_made {P : Program} {w : World} {K : PySem.W.Frag} {mg : Str → Option Value} {base : Heap} {f : Addr} {fd : FuncData} {C_BadText : Addr} {I_BadText : Addr} {C_BadTally : Addr} {I_BadTally : Addr} {C_BadRewriter : Addr} {I_BadRewriter : Addr} {C_BadTicket : Addr} {I_BadTicket : Addr} {C_Unbounded : Addr} {I_Unbounded : Addr} {C_DoesDouble : Addr} {I_DoesDouble : Addr} {C_CannotBe : Addr} {I_CannotBe : Addr} {C_BadTold : Addr} {I_BadTold : Addr} {C_BadName : Addr} {I_BadName : Addr} {C_BadDigit : Addr} {I_BadDigit : Addr} {C_NoName : Addr} {I_NoName : Addr} {C_NameTaken : Addr} {I_NameTaken : Addr} {C_NoPromise : Addr} {I_NoPromise : Addr} {C_BadPromise : Addr} {I_BadPromise : Addr} {C_SoldBefore : Addr} {I_SoldBefore : Addr} {C_BadDeed : Addr} {I_BadDeed : Addr} {C_NotSold : Addr} {I_NotSold : Addr} (xn_BadText : XN.ExcN P K mg "BadText" xd_BadText.qual xd_BadText.a xd_BadText.q xp_BadText C_BadText I_BadText) (xn_BadTally : XN.ExcN P K mg "BadTally" xd_BadTally.qual xd_BadTally.a xd_BadTally.q xp_BadTally C_BadTally I_BadTally) (xn_BadRewriter : XN.ExcN P K mg "BadRewriter" xd_BadRewriter.qual xd_BadRewriter.a xd_BadRewriter.q xp_BadRewriter C_BadRewriter I_BadRewriter) (xn_BadTicket : XN.ExcN P K mg "BadTicket" xd_BadTicket.qual xd_BadTicket.a xd_BadTicket.q xp_BadTicket C_BadTicket I_BadTicket) (xn_Unbounded : XN.ExcN P K mg "Unbounded" xd_Unbounded.qual xd_Unbounded.a xd_Unbounded.q xp_Unbounded C_Unbounded I_Unbounded) (xn_DoesDouble : XN.ExcN P K mg "DoesDouble" xd_DoesDouble.qual xd_DoesDouble.a xd_DoesDouble.q xp_DoesDouble C_DoesDouble I_DoesDouble) (xn_CannotBe : XN.ExcN P K mg "CannotBe" xd_CannotBe.qual xd_CannotBe.a xd_CannotBe.q xp_CannotBe C_CannotBe I_CannotBe) (xn_BadTold : XN.ExcN P K mg "BadTold" xd_BadTold.qual xd_BadTold.a xd_BadTold.q xp_BadTold C_BadTold I_BadTold) (xn_BadName : XN.ExcN P K mg "BadName" xd_BadName.qual xd_BadName.a xd_BadName.q xp_BadName C_BadName I_BadName) (xn_BadDigit : XN.ExcN P K mg "BadDigit" xd_BadDigit.qual xd_BadDigit.a xd_BadDigit.q xp_BadDigit C_BadDigit I_BadDigit) (xn_NoName : XN.ExcN P K mg "NoName" xd_NoName.qual xd_NoName.a xd_NoName.q xp_NoName C_NoName I_NoName) (xn_NameTaken : XN.ExcN P K mg "NameTaken" xd_NameTaken.qual xd_NameTaken.a xd_NameTaken.q xp_NameTaken C_NameTaken I_NameTaken) (xn_NoPromise : XN.ExcN P K mg "NoPromise" xd_NoPromise.qual xd_NoPromise.a xd_NoPromise.q xp_NoPromise C_NoPromise I_NoPromise) (xn_BadPromise : XN.ExcN P K mg "BadPromise" xd_BadPromise.qual xd_BadPromise.a xd_BadPromise.q xp_BadPromise C_BadPromise I_BadPromise) (xn_SoldBefore : XN.ExcN P K mg "SoldBefore" xd_SoldBefore.qual xd_SoldBefore.a xd_SoldBefore.q xp_SoldBefore C_SoldBefore I_SoldBefore) (xn_BadDeed : XN.ExcN P K mg "BadDeed" xd_BadDeed.qual xd_BadDeed.a xd_BadDeed.q xp_BadDeed C_BadDeed I_BadDeed) (xn_NotSold : XN.ExcN P K mg "NotSold" xd_NotSold.qual xd_NotSold.a xd_NotSold.q xp_NotSold C_NotSold I_NotSold) (F : FD K "_law_made" 33 f fd) : FnG P w K mg base 1 f fd ["_law_which", "_law_a", "_law_b"] (spD K (clOf mg) fn__law_made) :=
  fn_okD F sc__law_made fun cdv A outer s H E gd hr => ⟨_, (us_cons (us_if (ut_cmp (op_eqG hr.units) sn_eq (u_var 0 (pv 0)) u_int (nomark _)) (us_one (us_ret (u_lst (ua_cons (u_tup (ua_cons (u_excN xn_BadTally ev_BadTally bi_BadTally (List.cons_ne_nil _ _) (Nat.le_of_ble_eq_true rfl) hr (ua_cons (u_var 1 (pv 1)) ua_nil)) (ua_cons (u_excNK (ks := ["part"]) xn_BadTally ev_BadTally bk_BadTally_0 (List.cons_ne_nil _ _) (Nat.le_of_ble_eq_true rfl) hr (uk_cons (u_var 2 (pv 2)) uk_nil)) (ua_cons u_str ua_nil)))) (ua_cons (u_tup (ua_cons (u_excN xn_BadText ev_BadText bi_BadText (List.cons_ne_nil _ _) (Nat.le_of_ble_eq_true rfl) hr (ua_cons (u_var 1 (pv 1)) ua_nil)) (ua_cons (u_excNK (ks := ["line"]) xn_BadText ev_BadText bk_BadText_0 (List.cons_ne_nil _ _) (Nat.le_of_ble_eq_true rfl) hr (uk_cons (u_var 2 (pv 2)) uk_nil)) (ua_cons u_str ua_nil)))) ua_nil))))) us_nil)
    (us_cons (us_if (ut_cmp (op_eqG hr.units) sn_eq (u_var 0 (pv 0)) u_int (nomark _)) (us_one (us_ret (u_lst (ua_cons (u_tup (ua_cons (u_excN xn_BadTicket ev_BadTicket bi_BadTicket (List.cons_ne_nil _ _) (Nat.le_of_ble_eq_true rfl) hr (ua_cons (u_var 1 (pv 1)) ua_nil)) (ua_cons (u_excNK (ks := ["ticket"]) xn_BadTicket ev_BadTicket bk_BadTicket_0 (List.cons_ne_nil _ _) (Nat.le_of_ble_eq_true rfl) hr (uk_cons (u_var 2 (pv 2)) uk_nil)) (ua_cons u_str ua_nil)))) (ua_cons (u_tup (ua_cons (u_excN xn_BadRewriter ev_BadRewriter bi_BadRewriter (List.cons_ne_nil _ _) (Nat.le_of_ble_eq_true rfl) hr (ua_cons (u_var 1 (pv 1)) ua_nil)) (ua_cons (u_excNK (ks := ["part"]) xn_BadRewriter ev_BadRewriter bk_BadRewriter_0 (List.cons_ne_nil _ _) (Nat.le_of_ble_eq_true rfl) hr (uk_cons (u_var 2 (pv 2)) uk_nil)) (ua_cons u_str ua_nil)))) ua_nil))))) us_nil)
    (us_cons (us_if (ut_cmp (op_eqG hr.units) sn_eq (u_var 0 (pv 0)) u_int (nomark _)) (us_one (us_ret (u_lst (ua_cons (u_tup (ua_cons (u_excN xn_DoesDouble ev_DoesDouble bi_DoesDouble (List.cons_ne_nil _ _) (Nat.le_of_ble_eq_true rfl) hr (ua_cons (u_var 1 (pv 1)) ua_nil)) (ua_cons (u_excNK (ks := ["paper"]) xn_DoesDouble ev_DoesDouble bk_DoesDouble_0 (List.cons_ne_nil _ _) (Nat.le_of_ble_eq_true rfl) hr (uk_cons (u_var 2 (pv 2)) uk_nil)) (ua_cons u_str ua_nil)))) (ua_cons (u_tup (ua_cons (u_excN xn_Unbounded ev_Unbounded bi_Unbounded (List.cons_ne_nil _ _) (Nat.le_of_ble_eq_true rfl) hr (ua_cons (u_var 1 (pv 1)) ua_nil)) (ua_cons (u_excNK (ks := ["paper"]) xn_Unbounded ev_Unbounded bk_Unbounded_0 (List.cons_ne_nil _ _) (Nat.le_of_ble_eq_true rfl) hr (uk_cons (u_var 2 (pv 2)) uk_nil)) (ua_cons u_str ua_nil)))) ua_nil))))) us_nil)
    (us_cons (us_if (ut_cmp (op_eqG hr.units) sn_eq (u_var 0 (pv 0)) u_int (nomark _)) (us_one (us_ret (u_lst (ua_cons (u_tup (ua_cons (u_excN xn_BadTold ev_BadTold bi_BadTold (List.cons_ne_nil _ _) (Nat.le_of_ble_eq_true rfl) hr (ua_cons (u_var 1 (pv 1)) ua_nil)) (ua_cons (u_excNK (ks := ["number"]) xn_BadTold ev_BadTold bk_BadTold_0 (List.cons_ne_nil _ _) (Nat.le_of_ble_eq_true rfl) hr (uk_cons (u_var 2 (pv 2)) uk_nil)) (ua_cons u_str ua_nil)))) (ua_cons (u_tup (ua_cons (u_excN xn_CannotBe ev_CannotBe bi_CannotBe (List.cons_ne_nil _ _) (Nat.le_of_ble_eq_true rfl) hr (ua_cons (u_var 1 (pv 1)) ua_nil)) (ua_cons (u_excNK (ks := ["paper"]) xn_CannotBe ev_CannotBe bk_CannotBe_0 (List.cons_ne_nil _ _) (Nat.le_of_ble_eq_true rfl) hr (uk_cons (u_var 2 (pv 2)) uk_nil)) (ua_cons u_str ua_nil)))) ua_nil))))) us_nil)
    (us_cons (us_if (ut_cmp (op_eqG hr.units) sn_eq (u_var 0 (pv 0)) u_int (nomark _)) (us_one (us_ret (u_lst (ua_cons (u_tup (ua_cons (u_excN xn_BadDigit ev_BadDigit bi_BadDigit (List.cons_ne_nil _ _) (Nat.le_of_ble_eq_true rfl) hr (ua_cons (u_var 1 (pv 1)) ua_nil)) (ua_cons (u_excNK (ks := ["digit"]) xn_BadDigit ev_BadDigit bk_BadDigit_0 (List.cons_ne_nil _ _) (Nat.le_of_ble_eq_true rfl) hr (uk_cons (u_var 2 (pv 2)) uk_nil)) (ua_cons u_str ua_nil)))) (ua_cons (u_tup (ua_cons (u_excN xn_BadName ev_BadName bi_BadName (List.cons_ne_nil _ _) (Nat.le_of_ble_eq_true rfl) hr (ua_cons (u_var 1 (pv 1)) ua_nil)) (ua_cons (u_excNK (ks := ["name"]) xn_BadName ev_BadName bk_BadName_0 (List.cons_ne_nil _ _) (Nat.le_of_ble_eq_true rfl) hr (uk_cons (u_var 2 (pv 2)) uk_nil)) (ua_cons u_str ua_nil)))) ua_nil))))) us_nil)
    (us_cons (us_if (ut_cmp (op_eqG hr.units) sn_eq (u_var 0 (pv 0)) u_int (nomark _)) (us_one (us_ret (u_lst (ua_cons (u_tup (ua_cons (u_excN xn_NameTaken ev_NameTaken bi_NameTaken (List.cons_ne_nil _ _) (Nat.le_of_ble_eq_true rfl) hr (ua_cons (u_var 1 (pv 1)) ua_nil)) (ua_cons (u_excNK (ks := ["name"]) xn_NameTaken ev_NameTaken bk_NameTaken_0 (List.cons_ne_nil _ _) (Nat.le_of_ble_eq_true rfl) hr (uk_cons (u_var 2 (pv 2)) uk_nil)) (ua_cons u_str ua_nil)))) (ua_cons (u_tup (ua_cons (u_excN xn_NoName ev_NoName bi_NoName (List.cons_ne_nil _ _) (Nat.le_of_ble_eq_true rfl) hr (ua_cons (u_var 1 (pv 1)) ua_nil)) (ua_cons (u_excNK (ks := ["name"]) xn_NoName ev_NoName bk_NoName_0 (List.cons_ne_nil _ _) (Nat.le_of_ble_eq_true rfl) hr (uk_cons (u_var 2 (pv 2)) uk_nil)) (ua_cons u_str ua_nil)))) ua_nil))))) us_nil)
    (us_cons (us_if (ut_cmp (op_eqG hr.units) sn_eq (u_var 0 (pv 0)) u_int (nomark _)) (us_one (us_ret (u_lst (ua_cons (u_tup (ua_cons (u_excN xn_BadPromise ev_BadPromise bi_BadPromise (List.cons_ne_nil _ _) (Nat.le_of_ble_eq_true rfl) hr (ua_cons (u_var 1 (pv 1)) ua_nil)) (ua_cons (u_excNK (ks := ["promise"]) xn_BadPromise ev_BadPromise bk_BadPromise_0 (List.cons_ne_nil _ _) (Nat.le_of_ble_eq_true rfl) hr (uk_cons (u_var 2 (pv 2)) uk_nil)) (ua_cons u_str ua_nil)))) (ua_cons (u_tup (ua_cons (u_excN xn_NoPromise ev_NoPromise bi_NoPromise (List.cons_ne_nil _ _) (Nat.le_of_ble_eq_true rfl) hr (ua_cons (u_var 1 (pv 1)) ua_nil)) (ua_cons (u_excNK (ks := ["promise"]) xn_NoPromise ev_NoPromise bk_NoPromise_0 (List.cons_ne_nil _ _) (Nat.le_of_ble_eq_true rfl) hr (uk_cons (u_var 2 (pv 2)) uk_nil)) (ua_cons u_str ua_nil)))) ua_nil))))) us_nil)
    (us_cons (us_if (ut_cmp (op_eqG hr.units) sn_eq (u_var 0 (pv 0)) u_int (nomark _)) (us_one (us_ret (u_lst (ua_cons (u_tup (ua_cons (u_excN xn_BadDeed ev_BadDeed bi_BadDeed (List.cons_ne_nil _ _) (Nat.le_of_ble_eq_true rfl) hr (ua_cons (u_var 1 (pv 1)) ua_nil)) (ua_cons (u_excNK (ks := ["number"]) xn_BadDeed ev_BadDeed bk_BadDeed_0 (List.cons_ne_nil _ _) (Nat.le_of_ble_eq_true rfl) hr (uk_cons (u_var 2 (pv 2)) uk_nil)) (ua_cons u_str ua_nil)))) (ua_cons (u_tup (ua_cons (u_excN xn_SoldBefore ev_SoldBefore bi_SoldBefore (List.cons_ne_nil _ _) (Nat.le_of_ble_eq_true rfl) hr (ua_cons (u_var 1 (pv 1)) ua_nil)) (ua_cons (u_excNK (ks := ["ticket"]) xn_SoldBefore ev_SoldBefore bk_SoldBefore_0 (List.cons_ne_nil _ _) (Nat.le_of_ble_eq_true rfl) hr (uk_cons (u_var 2 (pv 2)) uk_nil)) (ua_cons u_str ua_nil)))) ua_nil))))) us_nil)
    (us_one (us_ret (u_lst (ua_cons (u_tup (ua_cons (u_excN xn_NotSold ev_NotSold bi_NotSold (List.cons_ne_nil _ _) (Nat.le_of_ble_eq_true rfl) hr (ua_cons (u_var 1 (pv 1)) ua_nil)) (ua_cons (u_excNK (ks := ["ticket"]) xn_NotSold ev_NotSold bk_NotSold_0 (List.cons_ne_nil _ _) (Nat.le_of_ble_eq_true rfl) hr (uk_cons (u_var 2 (pv 2)) uk_nil)) (ua_cons u_str ua_nil)))) ua_nil))))))))))))⟩
def d__law_borne_0 : MS := (sIf (dB (dOp (eqD false) (dVar 1) (ep (.str "part")))) (sRet (dFldX ["BadTally", "BadRewriter"] "part" (dVar 0))) sNx)
def d__law_borne_1 : MS := (sIf (dB (dOp (eqD false) (dVar 1) (ep (.str "line")))) (sRet (dFldX ["BadText"] "line" (dVar 0))) sNx)
def d__law_borne_2 : MS := (sIf (dB (dOp (eqD false) (dVar 1) (ep (.str "ticket")))) (sRet (dFldX ["BadTicket", "SoldBefore", "NotSold"] "ticket" (dVar 0))) sNx)
def d__law_borne_3 : MS := (sIf (dB (dOp (eqD false) (dVar 1) (ep (.str "paper")))) (sRet (dFldX ["DoesDouble", "Unbounded", "CannotBe"] "paper" (dVar 0))) sNx)
def d__law_borne_4 : MS := (sIf (dB (dOp (eqD false) (dVar 1) (ep (.str "number")))) (sRet (dFldX ["BadTold", "BadDeed"] "number" (dVar 0))) sNx)
def d__law_borne_5 : MS := (sIf (dB (dOp (eqD false) (dVar 1) (ep (.str "digit")))) (sRet (dFldX ["BadDigit"] "digit" (dVar 0))) sNx)
def d__law_borne_6 : MS := (sRet (dIfE (dB (dOp (eqD false) (dVar 1) (ep (.str "name")))) (dFldX ["BadName", "NameTaken", "NoName", "Unkept", "Needed"] "name" (dVar 0)) (dFldX ["BadPromise", "Unkept", "NoPromise"] "promise" (dVar 0))))
theorem sc__law_borne : FnScope ["_law_it", "_law_mark"] ["_law_it", "_law_mark"] (defScope (top 34)) := ⟨rfl, rfl, rfl, by decide +kernel, rfl, by decide +kernel, by decide +kernel⟩
def d__law_borne : MS := (ss d__law_borne_0
    (ss d__law_borne_1
    (ss d__law_borne_2
    (ss d__law_borne_3
    (ss d__law_borne_4
    (ss d__law_borne_5
    d__law_borne_6))))))
def fn__law_borne : Fn := fnDen 2 2 d__law_borne
theorem ok__law_borne {P : Program} {w : World} {K : PySem.W.Frag} {mg : Str → Option Value} {base : Heap} {f : Addr} {fd : FuncData} (xf_BadTally_BadRewriter_part : ∀ c ∈ (["BadTally", "BadRewriter"] : List Str), ∀ C, clOf mg c = some C → XFld K C "part") (xf_BadText_line : ∀ c ∈ (["BadText"] : List Str), ∀ C, clOf mg c = some C → XFld K C "line") (xf_BadTicket_SoldBefore_NotSold_ticket : ∀ c ∈ (["BadTicket", "SoldBefore", "NotSold"] : List Str), ∀ C, clOf mg c = some C → XFld K C "ticket") (xf_DoesDouble_Unbounded_CannotBe_paper : ∀ c ∈ (["DoesDouble", "Unbounded", "CannotBe"] : List Str), ∀ C, clOf mg c = some C → XFld K C "paper") (xf_BadTold_BadDeed_number : ∀ c ∈ (["BadTold", "BadDeed"] : List Str), ∀ C, clOf mg c = some C → XFld K C "number") (xf_BadDigit_digit : ∀ c ∈ (["BadDigit"] : List Str), ∀ C, clOf mg c = some C → XFld K C "digit") (xf_BadName_NameTaken_NoName_Unkept_Needed_name : ∀ c ∈ (["BadName", "NameTaken", "NoName", "Unkept", "Needed"] : List Str), ∀ C, clOf mg c = some C → XFld K C "name") (xf_BadPromise_Unkept_NoPromise_promise : ∀ c ∈ (["BadPromise", "Unkept", "NoPromise"] : List Str), ∀ C, clOf mg c = some C → XFld K C "promise") (F : FD K "_law_borne" 34 f fd) : FnG P w K mg base 1 f fd ["_law_it", "_law_mark"] (spD K (clOf mg) fn__law_borne) :=
  fn_okD F sc__law_borne fun cdv A outer s H E gd hr => ⟨_, (us_cons (us_if (ut_cmp (op_eqG hr.units) sn_eq (u_var 1 (pv 1)) u_str (nomark _)) (us_one (us_ret (u_fldX (ns := ["BadTally", "BadRewriter"]) xf_BadTally_BadRewriter_part (u_var 0 (pv 0))))) us_nil)
    (us_cons (us_if (ut_cmp (op_eqG hr.units) sn_eq (u_var 1 (pv 1)) u_str (nomark _)) (us_one (us_ret (u_fldX (ns := ["BadText"]) xf_BadText_line (u_var 0 (pv 0))))) us_nil)
    (us_cons (us_if (ut_cmp (op_eqG hr.units) sn_eq (u_var 1 (pv 1)) u_str (nomark _)) (us_one (us_ret (u_fldX (ns := ["BadTicket", "SoldBefore", "NotSold"]) xf_BadTicket_SoldBefore_NotSold_ticket (u_var 0 (pv 0))))) us_nil)
    (us_cons (us_if (ut_cmp (op_eqG hr.units) sn_eq (u_var 1 (pv 1)) u_str (nomark _)) (us_one (us_ret (u_fldX (ns := ["DoesDouble", "Unbounded", "CannotBe"]) xf_DoesDouble_Unbounded_CannotBe_paper (u_var 0 (pv 0))))) us_nil)
    (us_cons (us_if (ut_cmp (op_eqG hr.units) sn_eq (u_var 1 (pv 1)) u_str (nomark _)) (us_one (us_ret (u_fldX (ns := ["BadTold", "BadDeed"]) xf_BadTold_BadDeed_number (u_var 0 (pv 0))))) us_nil)
    (us_cons (us_if (ut_cmp (op_eqG hr.units) sn_eq (u_var 1 (pv 1)) u_str (nomark _)) (us_one (us_ret (u_fldX (ns := ["BadDigit"]) xf_BadDigit_digit (u_var 0 (pv 0))))) us_nil)
    (us_one (us_ret (u_ifExp (ut_cmp (op_eqG hr.units) sn_eq (u_var 1 (pv 1)) u_str (nomark _)) (u_fldX (ns := ["BadName", "NameTaken", "NoName", "Unkept", "Needed"]) xf_BadName_NameTaken_NoName_Unkept_Needed_name (u_var 0 (pv 0))) (u_fldX (ns := ["BadPromise", "Unkept", "NoPromise"]) xf_BadPromise_Unkept_NoPromise_promise (u_var 0 (pv 0))))))))))))⟩
def d__law_kinds_0 : MS := (sAsg (dLst (dCons (dUn (isiN xt_BadTally) (dVar 0)) (dCons (dUn (isiN xt_BadText) (dVar 0)) (dCons (dUn (isiN xt_BadTicket) (dVar 0)) (dCons (dUn (isiN xt_OtherDigits) (dVar 0)) dNil))))) (mName 1))
def d__law_kinds_1 : MS := (sAsg (dOp addD (dVar 1) (dLst (dCons (dUn (isiN xt_OtherTally) (dVar 0)) (dCons (dUn (isiN xt_BadRewriter) (dVar 0)) (dCons (dUn (isiN xt_OtherRoll) (dVar 0)) dNil))))) (mName 1))
def d__law_kinds_2 : MS := (sAsg (dOp addD (dVar 1) (dLst (dCons (dUn (isiN xt_DoesDouble) (dVar 0)) (dCons (dUn (isiN xt_Unbounded) (dVar 0)) (dCons (dUn (isiN xt_BadTold) (dVar 0)) dNil))))) (mName 1))
def d__law_kinds_3 : MS := (sAsg (dOp addD (dVar 1) (dLst (dCons (dUn (isiN xt_CannotBe) (dVar 0)) (dCons (dUn (isiN xt_BadDigit) (dVar 0)) (dCons (dUn (isiN xt_BadName) (dVar 0)) dNil))))) (mName 1))
def d__law_kinds_4 : MS := (sAsg (dOp addD (dVar 1) (dLst (dCons (dUn (isiN xt_NameTaken) (dVar 0)) (dCons (dUn (isiN xt_NoName) (dVar 0)) (dCons (dUn (isiN xt_BadPromise) (dVar 0)) dNil))))) (mName 1))
def d__law_kinds_5 : MS := (sAsg (dOp addD (dVar 1) (dLst (dCons (dUn (isiN xt_Unkept) (dVar 0)) (dCons (dUn (isiN xt_NoPromise) (dVar 0)) (dCons (dUn (isiN xt_Needed) (dVar 0)) dNil))))) (mName 1))
def d__law_kinds_6 : MS := (sAsg (dOp addD (dVar 1) (dLst (dCons (dUn (isiN xt_NothingToUndo) (dVar 0)) (dCons (dUn (isiN xt_NothingToRedo) (dVar 0)) (dCons (dUn (isiN xt_BadDeed) (dVar 0)) dNil))))) (mName 1))
def d__law_kinds_7 : MS := (sAsg (dOp addD (dVar 1) (dLst (dCons (dUn (isiN xt_NoStretch) (dVar 0)) (dCons (dUn (isiN xt_SoldBefore) (dVar 0)) (dCons (dUn (isiN xt_NotSold) (dVar 0)) dNil))))) (mName 1))
def d__law_kinds_8 : MS := (sRet (dOp addD (dVar 1) (dLst (dCons (dUn (isiN xt_InvalidCommand) (dVar 0)) dNil))))
theorem sc__law_kinds : FnScope ["_law_it", "_law_found"] ["_law_it"] (defScope (top 35)) := ⟨rfl, rfl, rfl, by decide +kernel, rfl, by decide +kernel, by decide +kernel⟩
def d__law_kinds : MS := (ss d__law_kinds_0
    (ss d__law_kinds_1
    (ss d__law_kinds_2
    (ss d__law_kinds_3
    (ss d__law_kinds_4
    (ss d__law_kinds_5
    (ss d__law_kinds_6
    (ss d__law_kinds_7
    d__law_kinds_8))))))))
def fn__law_kinds : Fn := fnDen 1 2 d__law_kinds
theorem ok__law_kinds {P : Program} {w : World} {K : PySem.W.Frag} {mg : Str → Option Value} {base : Heap} {f : Addr} {fd : FuncData} {C_OtherDigits : Addr} {C_BadTicket : Addr} {C_BadText : Addr} {C_BadTally : Addr} {C_OtherRoll : Addr} {C_BadRewriter : Addr} {C_OtherTally : Addr} {C_BadTold : Addr} {C_Unbounded : Addr} {C_DoesDouble : Addr} {C_BadName : Addr} {C_BadDigit : Addr} {C_CannotBe : Addr} {C_BadPromise : Addr} {C_NoName : Addr} {C_NameTaken : Addr} {C_Needed : Addr} {C_NoPromise : Addr} {C_Unkept : Addr} {C_BadDeed : Addr} {C_NothingToRedo : Addr} {C_NothingToUndo : Addr} {C_NotSold : Addr} {C_SoldBefore : Addr} {C_NoStretch : Addr} {C_InvalidCommand : Addr} (in_OtherDigits : IsN K (clOf mg) (.ref C_OtherDigits) xt_OtherDigits) (g_OtherDigits : mg "OtherDigits" = some (.ref C_OtherDigits)) (m_isinstance : mg "isinstance" = none) (in_BadTicket : IsN K (clOf mg) (.ref C_BadTicket) xt_BadTicket) (g_BadTicket : mg "BadTicket" = some (.ref C_BadTicket)) (in_BadText : IsN K (clOf mg) (.ref C_BadText) xt_BadText) (g_BadText : mg "BadText" = some (.ref C_BadText)) (in_BadTally : IsN K (clOf mg) (.ref C_BadTally) xt_BadTally) (g_BadTally : mg "BadTally" = some (.ref C_BadTally)) (in_OtherRoll : IsN K (clOf mg) (.ref C_OtherRoll) xt_OtherRoll) (g_OtherRoll : mg "OtherRoll" = some (.ref C_OtherRoll)) (in_BadRewriter : IsN K (clOf mg) (.ref C_BadRewriter) xt_BadRewriter) (g_BadRewriter : mg "BadRewriter" = some (.ref C_BadRewriter)) (in_OtherTally : IsN K (clOf mg) (.ref C_OtherTally) xt_OtherTally) (g_OtherTally : mg "OtherTally" = some (.ref C_OtherTally)) (in_BadTold : IsN K (clOf mg) (.ref C_BadTold) xt_BadTold) (g_BadTold : mg "BadTold" = some (.ref C_BadTold)) (in_Unbounded : IsN K (clOf mg) (.ref C_Unbounded) xt_Unbounded) (g_Unbounded : mg "Unbounded" = some (.ref C_Unbounded)) (in_DoesDouble : IsN K (clOf mg) (.ref C_DoesDouble) xt_DoesDouble) (g_DoesDouble : mg "DoesDouble" = some (.ref C_DoesDouble)) (in_BadName : IsN K (clOf mg) (.ref C_BadName) xt_BadName) (g_BadName : mg "BadName" = some (.ref C_BadName)) (in_BadDigit : IsN K (clOf mg) (.ref C_BadDigit) xt_BadDigit) (g_BadDigit : mg "BadDigit" = some (.ref C_BadDigit)) (in_CannotBe : IsN K (clOf mg) (.ref C_CannotBe) xt_CannotBe) (g_CannotBe : mg "CannotBe" = some (.ref C_CannotBe)) (in_BadPromise : IsN K (clOf mg) (.ref C_BadPromise) xt_BadPromise) (g_BadPromise : mg "BadPromise" = some (.ref C_BadPromise)) (in_NoName : IsN K (clOf mg) (.ref C_NoName) xt_NoName) (g_NoName : mg "NoName" = some (.ref C_NoName)) (in_NameTaken : IsN K (clOf mg) (.ref C_NameTaken) xt_NameTaken) (g_NameTaken : mg "NameTaken" = some (.ref C_NameTaken)) (in_Needed : IsN K (clOf mg) (.ref C_Needed) xt_Needed) (g_Needed : mg "Needed" = some (.ref C_Needed)) (in_NoPromise : IsN K (clOf mg) (.ref C_NoPromise) xt_NoPromise) (g_NoPromise : mg "NoPromise" = some (.ref C_NoPromise)) (in_Unkept : IsN K (clOf mg) (.ref C_Unkept) xt_Unkept) (g_Unkept : mg "Unkept" = some (.ref C_Unkept)) (in_BadDeed : IsN K (clOf mg) (.ref C_BadDeed) xt_BadDeed) (g_BadDeed : mg "BadDeed" = some (.ref C_BadDeed)) (in_NothingToRedo : IsN K (clOf mg) (.ref C_NothingToRedo) xt_NothingToRedo) (g_NothingToRedo : mg "NothingToRedo" = some (.ref C_NothingToRedo)) (in_NothingToUndo : IsN K (clOf mg) (.ref C_NothingToUndo) xt_NothingToUndo) (g_NothingToUndo : mg "NothingToUndo" = some (.ref C_NothingToUndo)) (in_NotSold : IsN K (clOf mg) (.ref C_NotSold) xt_NotSold) (g_NotSold : mg "NotSold" = some (.ref C_NotSold)) (in_SoldBefore : IsN K (clOf mg) (.ref C_SoldBefore) xt_SoldBefore) (g_SoldBefore : mg "SoldBefore" = some (.ref C_SoldBefore)) (in_NoStretch : IsN K (clOf mg) (.ref C_NoStretch) xt_NoStretch) (g_NoStretch : mg "NoStretch" = some (.ref C_NoStretch)) (in_InvalidCommand : IsN K (clOf mg) (.ref C_InvalidCommand) xt_InvalidCommand) (g_InvalidCommand : mg "InvalidCommand" = some (.ref C_InvalidCommand)) (F : FD K "_law_kinds" 35 f fd) : FnG P w K mg base 1 f fd ["_law_it"] (spD K (clOf mg) fn__law_kinds) :=
  fn_okD F sc__law_kinds fun cdv A outer s H E gd hr => ⟨_, (us_cons (us_set (i := 1) sc__law_kinds.nd (u_lst (ua_cons (u_isiNC in_BadTally (by rfl) m_isinstance g_BadTally (u_var 0 (pv 0))) (ua_cons (u_isiNC in_BadText (by rfl) m_isinstance g_BadText (u_var 0 (pv 0))) (ua_cons (u_isiNC in_BadTicket (by rfl) m_isinstance g_BadTicket (u_var 0 (pv 0))) (ua_cons (u_isiNC in_OtherDigits (by rfl) m_isinstance g_OtherDigits (u_var 0 (pv 0))) ua_nil))))))
    (us_cons (us_set (i := 1) sc__law_kinds.nd (u_op op_adds sn_add (u_var 1 (pv 1)) (u_lst (ua_cons (u_isiNC in_OtherTally (by rfl) m_isinstance g_OtherTally (u_var 0 (pv 0))) (ua_cons (u_isiNC in_BadRewriter (by rfl) m_isinstance g_BadRewriter (u_var 0 (pv 0))) (ua_cons (u_isiNC in_OtherRoll (by rfl) m_isinstance g_OtherRoll (u_var 0 (pv 0))) ua_nil))))))
    (us_cons (us_set (i := 1) sc__law_kinds.nd (u_op op_adds sn_add (u_var 1 (pv 1)) (u_lst (ua_cons (u_isiNC in_DoesDouble (by rfl) m_isinstance g_DoesDouble (u_var 0 (pv 0))) (ua_cons (u_isiNC in_Unbounded (by rfl) m_isinstance g_Unbounded (u_var 0 (pv 0))) (ua_cons (u_isiNC in_BadTold (by rfl) m_isinstance g_BadTold (u_var 0 (pv 0))) ua_nil))))))
    (us_cons (us_set (i := 1) sc__law_kinds.nd (u_op op_adds sn_add (u_var 1 (pv 1)) (u_lst (ua_cons (u_isiNC in_CannotBe (by rfl) m_isinstance g_CannotBe (u_var 0 (pv 0))) (ua_cons (u_isiNC in_BadDigit (by rfl) m_isinstance g_BadDigit (u_var 0 (pv 0))) (ua_cons (u_isiNC in_BadName (by rfl) m_isinstance g_BadName (u_var 0 (pv 0))) ua_nil))))))
    (us_cons (us_set (i := 1) sc__law_kinds.nd (u_op op_adds sn_add (u_var 1 (pv 1)) (u_lst (ua_cons (u_isiNC in_NameTaken (by rfl) m_isinstance g_NameTaken (u_var 0 (pv 0))) (ua_cons (u_isiNC in_NoName (by rfl) m_isinstance g_NoName (u_var 0 (pv 0))) (ua_cons (u_isiNC in_BadPromise (by rfl) m_isinstance g_BadPromise (u_var 0 (pv 0))) ua_nil))))))
    (us_cons (us_set (i := 1) sc__law_kinds.nd (u_op op_adds sn_add (u_var 1 (pv 1)) (u_lst (ua_cons (u_isiNC in_Unkept (by rfl) m_isinstance g_Unkept (u_var 0 (pv 0))) (ua_cons (u_isiNC in_NoPromise (by rfl) m_isinstance g_NoPromise (u_var 0 (pv 0))) (ua_cons (u_isiNC in_Needed (by rfl) m_isinstance g_Needed (u_var 0 (pv 0))) ua_nil))))))
    (us_cons (us_set (i := 1) sc__law_kinds.nd (u_op op_adds sn_add (u_var 1 (pv 1)) (u_lst (ua_cons (u_isiNC in_NothingToUndo (by rfl) m_isinstance g_NothingToUndo (u_var 0 (pv 0))) (ua_cons (u_isiNC in_NothingToRedo (by rfl) m_isinstance g_NothingToRedo (u_var 0 (pv 0))) (ua_cons (u_isiNC in_BadDeed (by rfl) m_isinstance g_BadDeed (u_var 0 (pv 0))) ua_nil))))))
    (us_cons (us_set (i := 1) sc__law_kinds.nd (u_op op_adds sn_add (u_var 1 (pv 1)) (u_lst (ua_cons (u_isiNC in_NoStretch (by rfl) m_isinstance g_NoStretch (u_var 0 (pv 0))) (ua_cons (u_isiNC in_SoldBefore (by rfl) m_isinstance g_SoldBefore (u_var 0 (pv 0))) (ua_cons (u_isiNC in_NotSold (by rfl) m_isinstance g_NotSold (u_var 0 (pv 0))) ua_nil))))))
    (us_one (us_ret (u_op op_adds sn_add (u_var 1 (pv 1)) (u_lst (ua_cons (u_isiNC in_InvalidCommand (by rfl) m_isinstance g_InvalidCommand (u_var 0 (pv 0))) ua_nil)))))))))))))⟩
theorem okq__law_kinds {P : Program} {w : World} {K : PySem.W.Frag} {mg : Str → Option Value} {base : Heap} {f : Addr} {fd : FuncData} {C_OtherDigits : Addr} {C_BadTicket : Addr} {C_BadText : Addr} {C_BadTally : Addr} {C_OtherRoll : Addr} {C_BadRewriter : Addr} {C_OtherTally : Addr} {C_BadTold : Addr} {C_Unbounded : Addr} {C_DoesDouble : Addr} {C_BadName : Addr} {C_BadDigit : Addr} {C_CannotBe : Addr} {C_BadPromise : Addr} {C_NoName : Addr} {C_NameTaken : Addr} {C_Needed : Addr} {C_NoPromise : Addr} {C_Unkept : Addr} {C_BadDeed : Addr} {C_NothingToRedo : Addr} {C_NothingToUndo : Addr} {C_NotSold : Addr} {C_SoldBefore : Addr} {C_NoStretch : Addr} {C_InvalidCommand : Addr} (in_OtherDigits : IsN K (clOf mg) (.ref C_OtherDigits) xt_OtherDigits) (g_OtherDigits : mg "OtherDigits" = some (.ref C_OtherDigits)) (m_isinstance : mg "isinstance" = none) (in_BadTicket : IsN K (clOf mg) (.ref C_BadTicket) xt_BadTicket) (g_BadTicket : mg "BadTicket" = some (.ref C_BadTicket)) (in_BadText : IsN K (clOf mg) (.ref C_BadText) xt_BadText) (g_BadText : mg "BadText" = some (.ref C_BadText)) (in_BadTally : IsN K (clOf mg) (.ref C_BadTally) xt_BadTally) (g_BadTally : mg "BadTally" = some (.ref C_BadTally)) (in_OtherRoll : IsN K (clOf mg) (.ref C_OtherRoll) xt_OtherRoll) (g_OtherRoll : mg "OtherRoll" = some (.ref C_OtherRoll)) (in_BadRewriter : IsN K (clOf mg) (.ref C_BadRewriter) xt_BadRewriter) (g_BadRewriter : mg "BadRewriter" = some (.ref C_BadRewriter)) (in_OtherTally : IsN K (clOf mg) (.ref C_OtherTally) xt_OtherTally) (g_OtherTally : mg "OtherTally" = some (.ref C_OtherTally)) (in_BadTold : IsN K (clOf mg) (.ref C_BadTold) xt_BadTold) (g_BadTold : mg "BadTold" = some (.ref C_BadTold)) (in_Unbounded : IsN K (clOf mg) (.ref C_Unbounded) xt_Unbounded) (g_Unbounded : mg "Unbounded" = some (.ref C_Unbounded)) (in_DoesDouble : IsN K (clOf mg) (.ref C_DoesDouble) xt_DoesDouble) (g_DoesDouble : mg "DoesDouble" = some (.ref C_DoesDouble)) (in_BadName : IsN K (clOf mg) (.ref C_BadName) xt_BadName) (g_BadName : mg "BadName" = some (.ref C_BadName)) (in_BadDigit : IsN K (clOf mg) (.ref C_BadDigit) xt_BadDigit) (g_BadDigit : mg "BadDigit" = some (.ref C_BadDigit)) (in_CannotBe : IsN K (clOf mg) (.ref C_CannotBe) xt_CannotBe) (g_CannotBe : mg "CannotBe" = some (.ref C_CannotBe)) (in_BadPromise : IsN K (clOf mg) (.ref C_BadPromise) xt_BadPromise) (g_BadPromise : mg "BadPromise" = some (.ref C_BadPromise)) (in_NoName : IsN K (clOf mg) (.ref C_NoName) xt_NoName) (g_NoName : mg "NoName" = some (.ref C_NoName)) (in_NameTaken : IsN K (clOf mg) (.ref C_NameTaken) xt_NameTaken) (g_NameTaken : mg "NameTaken" = some (.ref C_NameTaken)) (in_Needed : IsN K (clOf mg) (.ref C_Needed) xt_Needed) (g_Needed : mg "Needed" = some (.ref C_Needed)) (in_NoPromise : IsN K (clOf mg) (.ref C_NoPromise) xt_NoPromise) (g_NoPromise : mg "NoPromise" = some (.ref C_NoPromise)) (in_Unkept : IsN K (clOf mg) (.ref C_Unkept) xt_Unkept) (g_Unkept : mg "Unkept" = some (.ref C_Unkept)) (in_BadDeed : IsN K (clOf mg) (.ref C_BadDeed) xt_BadDeed) (g_BadDeed : mg "BadDeed" = some (.ref C_BadDeed)) (in_NothingToRedo : IsN K (clOf mg) (.ref C_NothingToRedo) xt_NothingToRedo) (g_NothingToRedo : mg "NothingToRedo" = some (.ref C_NothingToRedo)) (in_NothingToUndo : IsN K (clOf mg) (.ref C_NothingToUndo) xt_NothingToUndo) (g_NothingToUndo : mg "NothingToUndo" = some (.ref C_NothingToUndo)) (in_NotSold : IsN K (clOf mg) (.ref C_NotSold) xt_NotSold) (g_NotSold : mg "NotSold" = some (.ref C_NotSold)) (in_SoldBefore : IsN K (clOf mg) (.ref C_SoldBefore) xt_SoldBefore) (g_SoldBefore : mg "SoldBefore" = some (.ref C_SoldBefore)) (in_NoStretch : IsN K (clOf mg) (.ref C_NoStretch) xt_NoStretch) (g_NoStretch : mg "NoStretch" = some (.ref C_NoStretch)) (in_InvalidCommand : IsN K (clOf mg) (.ref C_InvalidCommand) xt_InvalidCommand) (g_InvalidCommand : mg "InvalidCommand" = some (.ref C_InvalidCommand)) (F : FD K "_law_kinds" 35 f fd) : FnQ P w K mg base 1 f fd ["_law_it"] (spD K (clOf mg) fn__law_kinds) :=
  fn_okQ F sc__law_kinds fun cdv A outer s H E p hr => ⟨_, (us_cons (us_set (i := 1) sc__law_kinds.nd (u_lst (ua_cons (u_isiNC in_BadTally (by rfl) m_isinstance g_BadTally (u_var 0 (pv 0))) (ua_cons (u_isiNC in_BadText (by rfl) m_isinstance g_BadText (u_var 0 (pv 0))) (ua_cons (u_isiNC in_BadTicket (by rfl) m_isinstance g_BadTicket (u_var 0 (pv 0))) (ua_cons (u_isiNC in_OtherDigits (by rfl) m_isinstance g_OtherDigits (u_var 0 (pv 0))) ua_nil))))))
    (us_cons (us_set (i := 1) sc__law_kinds.nd (u_op op_adds sn_add (u_var 1 (pv 1)) (u_lst (ua_cons (u_isiNC in_OtherTally (by rfl) m_isinstance g_OtherTally (u_var 0 (pv 0))) (ua_cons (u_isiNC in_BadRewriter (by rfl) m_isinstance g_BadRewriter (u_var 0 (pv 0))) (ua_cons (u_isiNC in_OtherRoll (by rfl) m_isinstance g_OtherRoll (u_var 0 (pv 0))) ua_nil))))))
    (us_cons (us_set (i := 1) sc__law_kinds.nd (u_op op_adds sn_add (u_var 1 (pv 1)) (u_lst (ua_cons (u_isiNC in_DoesDouble (by rfl) m_isinstance g_DoesDouble (u_var 0 (pv 0))) (ua_cons (u_isiNC in_Unbounded (by rfl) m_isinstance g_Unbounded (u_var 0 (pv 0))) (ua_cons (u_isiNC in_BadTold (by rfl) m_isinstance g_BadTold (u_var 0 (pv 0))) ua_nil))))))
    (us_cons (us_set (i := 1) sc__law_kinds.nd (u_op op_adds sn_add (u_var 1 (pv 1)) (u_lst (ua_cons (u_isiNC in_CannotBe (by rfl) m_isinstance g_CannotBe (u_var 0 (pv 0))) (ua_cons (u_isiNC in_BadDigit (by rfl) m_isinstance g_BadDigit (u_var 0 (pv 0))) (ua_cons (u_isiNC in_BadName (by rfl) m_isinstance g_BadName (u_var 0 (pv 0))) ua_nil))))))
    (us_cons (us_set (i := 1) sc__law_kinds.nd (u_op op_adds sn_add (u_var 1 (pv 1)) (u_lst (ua_cons (u_isiNC in_NameTaken (by rfl) m_isinstance g_NameTaken (u_var 0 (pv 0))) (ua_cons (u_isiNC in_NoName (by rfl) m_isinstance g_NoName (u_var 0 (pv 0))) (ua_cons (u_isiNC in_BadPromise (by rfl) m_isinstance g_BadPromise (u_var 0 (pv 0))) ua_nil))))))
    (us_cons (us_set (i := 1) sc__law_kinds.nd (u_op op_adds sn_add (u_var 1 (pv 1)) (u_lst (ua_cons (u_isiNC in_Unkept (by rfl) m_isinstance g_Unkept (u_var 0 (pv 0))) (ua_cons (u_isiNC in_NoPromise (by rfl) m_isinstance g_NoPromise (u_var 0 (pv 0))) (ua_cons (u_isiNC in_Needed (by rfl) m_isinstance g_Needed (u_var 0 (pv 0))) ua_nil))))))
    (us_cons (us_set (i := 1) sc__law_kinds.nd (u_op op_adds sn_add (u_var 1 (pv 1)) (u_lst (ua_cons (u_isiNC in_NothingToUndo (by rfl) m_isinstance g_NothingToUndo (u_var 0 (pv 0))) (ua_cons (u_isiNC in_NothingToRedo (by rfl) m_isinstance g_NothingToRedo (u_var 0 (pv 0))) (ua_cons (u_isiNC in_BadDeed (by rfl) m_isinstance g_BadDeed (u_var 0 (pv 0))) ua_nil))))))
    (us_cons (us_set (i := 1) sc__law_kinds.nd (u_op op_adds sn_add (u_var 1 (pv 1)) (u_lst (ua_cons (u_isiNC in_NoStretch (by rfl) m_isinstance g_NoStretch (u_var 0 (pv 0))) (ua_cons (u_isiNC in_SoldBefore (by rfl) m_isinstance g_SoldBefore (u_var 0 (pv 0))) (ua_cons (u_isiNC in_NotSold (by rfl) m_isinstance g_NotSold (u_var 0 (pv 0))) ua_nil))))))
    (us_one (us_ret (u_op op_adds sn_add (u_var 1 (pv 1)) (u_lst (ua_cons (u_isiNC in_InvalidCommand (by rfl) m_isinstance g_InvalidCommand (u_var 0 (pv 0))) ua_nil)))))))))))))⟩
theorem bk_NoStretch_0_1 : ∀ us : List Value, us.length = (["low", "high"] : List Str).length → ∃ vs : List Value, vs.length = xp_NoStretch.length ∧ XN.BiN xd_NoStretch.qual xd_NoStretch.a xd_NoStretch.q xp_NoStretch [] ((["low", "high"] : List Str).zip us) vs ∧ ∀ f, ((xp_NoStretch.map (·.p)).zip vs).reverse.lookup f = ((["low", "high"] : List Str).zip us).reverse.lookup f := fun us h => match us, h with
  | [u0, u1], _ => ⟨[u0, u1], rfl, fun _ _ _ _ _ _ _ => by first | rfl | with_unfolding_all rfl | kernel_rfl, fun f => by
      by_cases h0 : f = "low"
      · subst h0; rfl
      by_cases h1 : f = "high"
      · subst h1; rfl
      show List.lookup f [("high", u1), ("low", u0)] = List.lookup f [("high", u1), ("low", u0)]
      simp only [List.lookup_cons, List.lookup_nil, show (f == ("low" : Str)) = false by simpa using h0, show (f == ("high" : Str)) = false by simpa using h1]⟩
def d__law_raised_0 : MS := (sIf (dB (dOp (eqD false) (dVar 0) (ep (.int 0)))) (sRaiseN "BadTally" ["part"] (dCons (dVar 1) dNil)) sNx)
def d__law_raised_1 : MS := (sIf (dB (dOp (eqD false) (dVar 0) (ep (.int 1)))) (sRaiseN "BadText" ["line"] (dCons (dVar 1) dNil)) sNx)
def d__law_raised_2 : MS := (sIf (dB (dOp (eqD false) (dVar 0) (ep (.int 2)))) (sRaiseN "BadTicket" ["ticket"] (dCons (dVar 1) dNil)) sNx)
def d__law_raised_3 : MS := (sIf (dB (dOp (eqD false) (dVar 0) (ep (.int 3)))) (sRaise0 "OtherDigits") sNx)
def d__law_raised_4 : MS := (sIf (dB (dOp (eqD false) (dVar 0) (ep (.int 4)))) (sRaiseN "DoesDouble" ["paper"] (dCons (dVar 1) dNil)) sNx)
def d__law_raised_5 : MS := (sIf (dB (dOp (eqD false) (dVar 0) (ep (.int 5)))) (sRaiseN "CannotBe" ["paper"] (dCons (dVar 1) dNil)) sNx)
def d__law_raised_6 : MS := (sIf (dB (dOp (eqD false) (dVar 0) (ep (.int 6)))) (sRaiseN "Unkept" ["name", "promise", "fault"] (dCons (dVar 1) (dCons (dVar 1) (dCons (dVar 1) dNil)))) sNx)
def d__law_raised_7 : MS := (sIf (dB (dOp (eqD false) (dVar 0) (ep (.int 7)))) (sRaise0 "NothingToUndo") sNx)
def d__law_raised_8 : MS := (sIf (dB (dOp (eqD false) (dVar 0) (ep (.int 8)))) (sRaiseN "NoStretch" ["low", "high"] (dCons (dVar 1) (dCons (dVar 1) dNil))) sNx)
def d__law_raised_9 : MS := (sRaise0 "InvalidCommand")
theorem sc__law_raised : FnScope ["_law_which", "_law_a"] ["_law_which", "_law_a"] (defScope (top 37)) := ⟨rfl, rfl, rfl, by decide +kernel, rfl, by decide +kernel, by decide +kernel⟩
def d__law_raised : MS := (ss d__law_raised_0
    (ss d__law_raised_1
    (ss d__law_raised_2
    (ss d__law_raised_3
    (ss d__law_raised_4
    (ss d__law_raised_5
    (ss d__law_raised_6
    (ss d__law_raised_7
    (ss d__law_raised_8
    d__law_raised_9)))))))))
def fn__law_raised : Fn := fnDen 2 2 d__law_raised
theorem ok__law_raised {P : Program} {w : World} {K : PySem.W.Frag} {mg : Str → Option Value} {base : Heap} {f : Addr} {fd : FuncData} {C_BadTally : Addr} {I_BadTally : Addr} {C_BadText : Addr} {I_BadText : Addr} {C_BadTicket : Addr} {I_BadTicket : Addr} {C_OtherDigits : Addr} {C_DoesDouble : Addr} {I_DoesDouble : Addr} {C_CannotBe : Addr} {I_CannotBe : Addr} {C_Unkept : Addr} {I_Unkept : Addr} {C_NothingToUndo : Addr} {C_NoStretch : Addr} {I_NoStretch : Addr} {C_InvalidCommand : Addr} (xn_BadTally : XN.ExcN P K mg "BadTally" xd_BadTally.qual xd_BadTally.a xd_BadTally.q xp_BadTally C_BadTally I_BadTally) (xn_BadText : XN.ExcN P K mg "BadText" xd_BadText.qual xd_BadText.a xd_BadText.q xp_BadText C_BadText I_BadText) (xn_BadTicket : XN.ExcN P K mg "BadTicket" xd_BadTicket.qual xd_BadTicket.a xd_BadTicket.q xp_BadTicket C_BadTicket I_BadTicket) (xo_OtherDigits : ExcO K mg "OtherDigits" C_OtherDigits) (xn_DoesDouble : XN.ExcN P K mg "DoesDouble" xd_DoesDouble.qual xd_DoesDouble.a xd_DoesDouble.q xp_DoesDouble C_DoesDouble I_DoesDouble) (xn_CannotBe : XN.ExcN P K mg "CannotBe" xd_CannotBe.qual xd_CannotBe.a xd_CannotBe.q xp_CannotBe C_CannotBe I_CannotBe) (xn_Unkept : XN.ExcN P K mg "Unkept" xd_Unkept.qual xd_Unkept.a xd_Unkept.q xp_Unkept C_Unkept I_Unkept) (xo_NothingToUndo : ExcO K mg "NothingToUndo" C_NothingToUndo) (xn_NoStretch : XN.ExcN P K mg "NoStretch" xd_NoStretch.qual xd_NoStretch.a xd_NoStretch.q xp_NoStretch C_NoStretch I_NoStretch) (xo_InvalidCommand : ExcO K mg "InvalidCommand" C_InvalidCommand) (F : FD K "_law_raised" 37 f fd) : FnG P w K mg base 1 f fd ["_law_which", "_law_a"] (spD K (clOf mg) fn__law_raised) :=
  fn_okD F sc__law_raised fun cdv A outer s H E gd hr => ⟨_, (us_cons (us_if (ut_cmp (op_eqG hr.units) sn_eq (u_var 0 (pv 0)) u_int (nomark _)) (us_one (us_raiseN (by rfl) xn_BadTally ev_BadTally bi_BadTally (List.cons_ne_nil _ _) (Nat.le_of_ble_eq_true rfl) hr (takes_of rfl rfl rfl rfl) (ua_cons (u_var 1 (pv 1)) ua_nil))) us_nil)
    (us_cons (us_if (ut_cmp (op_eqG hr.units) sn_eq (u_var 0 (pv 0)) u_int (nomark _)) (us_one (us_raiseNK (ks := ["line"]) (by rfl) xn_BadText ev_BadText bk_BadText_0 (List.cons_ne_nil _ _) (Nat.le_of_ble_eq_true rfl) hr (takes_of rfl rfl rfl rfl) (uk_cons (u_var 1 (pv 1)) uk_nil))) us_nil)
    (us_cons (us_if (ut_cmp (op_eqG hr.units) sn_eq (u_var 0 (pv 0)) u_int (nomark _)) (us_one (us_raiseN (by rfl) xn_BadTicket ev_BadTicket bi_BadTicket (List.cons_ne_nil _ _) (Nat.le_of_ble_eq_true rfl) hr (takes_of rfl rfl rfl rfl) (ua_cons (u_var 1 (pv 1)) ua_nil))) us_nil)
    (us_cons (us_if (ut_cmp (op_eqG hr.units) sn_eq (u_var 0 (pv 0)) u_int (nomark _)) (us_one (us_raise0 (by rfl) xo_OtherDigits (takes_of rfl rfl rfl rfl))) us_nil)
    (us_cons (us_if (ut_cmp (op_eqG hr.units) sn_eq (u_var 0 (pv 0)) u_int (nomark _)) (us_one (us_raiseNK (ks := ["paper"]) (by rfl) xn_DoesDouble ev_DoesDouble bk_DoesDouble_0 (List.cons_ne_nil _ _) (Nat.le_of_ble_eq_true rfl) hr (takes_of rfl rfl rfl rfl) (uk_cons (u_var 1 (pv 1)) uk_nil))) us_nil)
    (us_cons (us_if (ut_cmp (op_eqG hr.units) sn_eq (u_var 0 (pv 0)) u_int (nomark _)) (us_one (us_raiseN (by rfl) xn_CannotBe ev_CannotBe bi_CannotBe (List.cons_ne_nil _ _) (Nat.le_of_ble_eq_true rfl) hr (takes_of rfl rfl rfl rfl) (ua_cons (u_var 1 (pv 1)) ua_nil))) us_nil)
    (us_cons (us_if (ut_cmp (op_eqG hr.units) sn_eq (u_var 0 (pv 0)) u_int (nomark _)) (us_one (us_raiseN (by rfl) xn_Unkept ev_Unkept bi_Unkept (List.cons_ne_nil _ _) (Nat.le_of_ble_eq_true rfl) hr (takes_of rfl rfl rfl rfl) (ua_cons (u_var 1 (pv 1)) (ua_cons (u_var 1 (pv 1)) (ua_cons (u_var 1 (pv 1)) ua_nil))))) us_nil)
    (us_cons (us_if (ut_cmp (op_eqG hr.units) sn_eq (u_var 0 (pv 0)) u_int (nomark _)) (us_one (us_raise0 (by rfl) xo_NothingToUndo (takes_of rfl rfl rfl rfl))) us_nil)
    (us_cons (us_if (ut_cmp (op_eqG hr.units) sn_eq (u_var 0 (pv 0)) u_int (nomark _)) (us_one (us_raiseNK (ks := ["low", "high"]) (by rfl) xn_NoStretch ev_NoStretch bk_NoStretch_0_1 (List.cons_ne_nil _ _) (Nat.le_of_ble_eq_true rfl) hr (takes_of rfl rfl rfl rfl) (uk_cons (u_var 1 (pv 1)) (uk_cons (u_var 1 (pv 1)) uk_nil)))) us_nil)
    (us_one (us_raise0 (by rfl) xo_InvalidCommand (takes_of rfl rfl rfl rfl))))))))))))⟩
def d__law_caught_0 : MS := (sAsg (dLst dNil) (mName 2))
def d__law_caught_1 : MS := (sTry [("BadTally", true), ("BadText", true), ("BadTicket", true), ("OtherDigits", true), ("DoesDouble", true), ("CannotBe", true), ("Unkept", true), ("NothingToUndo", true), ("NoStretch", true), ("InvalidCommand", true)] 3 (sDrop (dCall fn__law_raised (dCons (dVar 0) (dCons (dVar 1) dNil)))) (sAsg (dCall fn__law_kinds (dCons (dVar 3) dNil)) (mName 2)))
def d__law_caught_2 : MS := (sRet (dVar 2))
theorem sc__law_caught : FnScope ["_law_which", "_law_a", "_law_found", "e"] ["_law_which", "_law_a"] (defScope (top 38)) := ⟨rfl, rfl, rfl, by decide +kernel, rfl, by decide +kernel, by decide +kernel⟩
def d__law_caught : MS := (ss d__law_caught_0
    (ss d__law_caught_1
    d__law_caught_2))
def fn__law_caught : Fn := fnDen 2 4 d__law_caught
theorem ok__law_caught {P : Program} {w : World} {K : PySem.W.Frag} {mg : Str → Option Value} {base : Heap} {f : Addr} {fd : FuncData} {a__law_raised : Addr} {e__law_raised : FuncData} {a__law_kinds : Addr} {e__law_kinds : FuncData} {C_TallyError : Addr} {C_InvalidCommand : Addr} {C_NoStretch : Addr} {C_NothingToUndo : Addr} {C_Unkept : Addr} {C_CannotBe : Addr} {C_DoesDouble : Addr} {C_OtherDigits : Addr} {C_BadTicket : Addr} {C_BadText : Addr} {C_BadTally : Addr} (c__law_raised : Ce P w K mg base 1 "_law_raised" ["_law_which", "_law_a"] fn__law_raised a__law_raised e__law_raised) (c__law_kinds : Ce P w K mg base 1 "_law_kinds" ["_law_it"] fn__law_kinds a__law_kinds e__law_kinds) (cq__law_kinds : CeQ P w K mg base 1 "_law_kinds" ["_law_it"] fn__law_kinds a__law_kinds e__law_kinds) (g_TallyError : mg "TallyError" = some (.ref C_TallyError)) (cl_InvalidCommand : clOf mg "InvalidCommand" = some C_InvalidCommand) (em_InvalidCommand_TallyError : PySem.W.exmOne K (.ref C_InvalidCommand) (.ref C_TallyError) = some true) (cl_NoStretch : clOf mg "NoStretch" = some C_NoStretch) (em_NoStretch_TallyError : PySem.W.exmOne K (.ref C_NoStretch) (.ref C_TallyError) = some true) (cl_NothingToUndo : clOf mg "NothingToUndo" = some C_NothingToUndo) (em_NothingToUndo_TallyError : PySem.W.exmOne K (.ref C_NothingToUndo) (.ref C_TallyError) = some true) (cl_Unkept : clOf mg "Unkept" = some C_Unkept) (em_Unkept_TallyError : PySem.W.exmOne K (.ref C_Unkept) (.ref C_TallyError) = some true) (cl_CannotBe : clOf mg "CannotBe" = some C_CannotBe) (em_CannotBe_TallyError : PySem.W.exmOne K (.ref C_CannotBe) (.ref C_TallyError) = some true) (cl_DoesDouble : clOf mg "DoesDouble" = some C_DoesDouble) (em_DoesDouble_TallyError : PySem.W.exmOne K (.ref C_DoesDouble) (.ref C_TallyError) = some true) (cl_OtherDigits : clOf mg "OtherDigits" = some C_OtherDigits) (em_OtherDigits_TallyError : PySem.W.exmOne K (.ref C_OtherDigits) (.ref C_TallyError) = some true) (cl_BadTicket : clOf mg "BadTicket" = some C_BadTicket) (em_BadTicket_TallyError : PySem.W.exmOne K (.ref C_BadTicket) (.ref C_TallyError) = some true) (cl_BadText : clOf mg "BadText" = some C_BadText) (em_BadText_TallyError : PySem.W.exmOne K (.ref C_BadText) (.ref C_TallyError) = some true) (cl_BadTally : clOf mg "BadTally" = some C_BadTally) (em_BadTally_TallyError : PySem.W.exmOne K (.ref C_BadTally) (.ref C_TallyError) = some true) (F : FD K "_law_caught" 38 f fd) : FnG P w K mg base 2 f fd ["_law_which", "_law_a"] (spD K (clOf mg) fn__law_caught) :=
  fn_okD F sc__law_caught fun cdv A outer s H E gd hr => ⟨_, (us_cons (us_set (i := 2) sc__law_caught.nd (u_lst ua_nil))
    (us_cons (us_try (i := 3) (cs := [("BadTally", true), ("BadText", true), ("BadTicket", true), ("OtherDigits", true), ("DoesDouble", true), ("CannotBe", true), ("Unkept", true), ("NothingToUndo", true), ("NoStretch", true), ("InvalidCommand", true)]) ⟨by rfl, by decide, .inl g_TallyError⟩ (takes_of rfl rfl rfl rfl) sc__law_caught.nd (catch_cons cl_BadTally em_BadTally_TallyError (catch_cons cl_BadText em_BadText_TallyError (catch_cons cl_BadTicket em_BadTicket_TallyError (catch_cons cl_OtherDigits em_OtherDigits_TallyError (catch_cons cl_DoesDouble em_DoesDouble_TallyError (catch_cons cl_CannotBe em_CannotBe_TallyError (catch_cons cl_Unkept em_Unkept_TallyError (catch_cons cl_NothingToUndo em_NothingToUndo_TallyError (catch_cons cl_NoStretch em_NoStretch_TallyError (catch_cons cl_InvalidCommand em_InvalidCommand_TallyError catch_nil)))))))))) (fun W pn xe tk po => ((us_one (us_expr (u_call c__law_raised.ok gd (hr.mono (by decide)) c__law_raised.g c__law_raised.k c__law_raised.b tk (ua_cons (u_var 0 (pv 0)) (ua_cons (u_var 1 (pv 1)) ua_nil)))))).v) (fun a pn => ((us_one (us_set (i := 2) sc__law_caught.nd (u_callQ cq__law_kinds.ok (roomS hr (by decide)) cq__law_kinds.g cq__law_kinds.k cq__law_kinds.b takes0 (ua_cons (u_var 3 (pv 3)) ua_nil))))).v))
    (us_one (us_ret (u_var 2 (pv 2))))))⟩
theorem bk_Unkept_2_0_1 : ∀ us : List Value, us.length = (["fault", "name", "promise"] : List Str).length → ∃ vs : List Value, vs.length = xp_Unkept.length ∧ XN.BiN xd_Unkept.qual xd_Unkept.a xd_Unkept.q xp_Unkept [] ((["fault", "name", "promise"] : List Str).zip us) vs ∧ ∀ f, ((xp_Unkept.map (·.p)).zip vs).reverse.lookup f = ((["fault", "name", "promise"] : List Str).zip us).reverse.lookup f := fun us h => match us, h with
  | [u0, u1, u2], _ => ⟨[u1, u2, u0], rfl, fun _ _ _ _ _ _ _ => by first | rfl | with_unfolding_all rfl | kernel_rfl, fun f => by
      by_cases h0 : f = "fault"
      · subst h0; rfl
      by_cases h1 : f = "name"
      · subst h1; rfl
      by_cases h2 : f = "promise"
      · subst h2; rfl
      show List.lookup f [("fault", u0), ("promise", u2), ("name", u1)] = List.lookup f [("promise", u2), ("name", u1), ("fault", u0)]
      simp only [List.lookup_cons, List.lookup_nil, show (f == ("fault" : Str)) = false by simpa using h0, show (f == ("name" : Str)) = false by simpa using h1, show (f == ("promise" : Str)) = false by simpa using h2]⟩
theorem bk_Needed_1_0 : ∀ us : List Value, us.length = (["other", "name"] : List Str).length → ∃ vs : List Value, vs.length = xp_Needed.length ∧ XN.BiN xd_Needed.qual xd_Needed.a xd_Needed.q xp_Needed [] ((["other", "name"] : List Str).zip us) vs ∧ ∀ f, ((xp_Needed.map (·.p)).zip vs).reverse.lookup f = ((["other", "name"] : List Str).zip us).reverse.lookup f := fun us h => match us, h with
  | [u0, u1], _ => ⟨[u1, u0], rfl, fun _ _ _ _ _ _ _ => by first | rfl | with_unfolding_all rfl | kernel_rfl, fun f => by
      by_cases h0 : f = "other"
      · subst h0; rfl
      by_cases h1 : f = "name"
      · subst h1; rfl
      show List.lookup f [("other", u0), ("name", u1)] = List.lookup f [("name", u1), ("other", u0)]
      simp only [List.lookup_cons, List.lookup_nil, show (f == ("other" : Str)) = false by simpa using h0, show (f == ("name" : Str)) = false by simpa using h1]⟩
theorem bk_NoStretch_1_0 : ∀ us : List Value, us.length = (["high", "low"] : List Str).length → ∃ vs : List Value, vs.length = xp_NoStretch.length ∧ XN.BiN xd_NoStretch.qual xd_NoStretch.a xd_NoStretch.q xp_NoStretch [] ((["high", "low"] : List Str).zip us) vs ∧ ∀ f, ((xp_NoStretch.map (·.p)).zip vs).reverse.lookup f = ((["high", "low"] : List Str).zip us).reverse.lookup f := fun us h => match us, h with
  | [u0, u1], _ => ⟨[u1, u0], rfl, fun _ _ _ _ _ _ _ => by first | rfl | with_unfolding_all rfl | kernel_rfl, fun f => by
      by_cases h0 : f = "high"
      · subst h0; rfl
      by_cases h1 : f = "low"
      · subst h1; rfl
      show List.lookup f [("high", u0), ("low", u1)] = List.lookup f [("low", u1), ("high", u0)]
      simp only [List.lookup_cons, List.lookup_nil, show (f == ("high" : Str)) = false by simpa using h0, show (f == ("low" : Str)) = false by simpa using h1]⟩
def d__law_wide_right_0 : MS := (sPar3 2 3 4 (dCons (dCall fn__law_value (dCons (dVar 0) dNil)) (dCons (dCall fn__law_value (dCons (dVar 0) dNil)) (dCons (dCall fn__law_value (dCons (dVar 0) dNil)) dNil))))
def d__law_wide_right_1 : MS := (sPar 5 6 (dCons (dExcN "Unkept" ["name", "promise", "fault"] (dCons (dVar 2) (dCons (dVar 3) (dCons (dVar 4) dNil)))) (dCons (dExcN "Unkept" ["fault", "name", "promise"] (dCons (dVar 2) (dCons (dVar 3) (dCons (dVar 4) dNil)))) dNil)))
def d__law_wide_right_2 : MS := (sIf (dB (dOp (eqD true) (dCallB (one reprAD) (dCons (dLst (dCons (dFldX ["BadName", "NameTaken", "NoName", "Unkept", "Needed"] "name" (dVar 5)) (dCons (dFldX ["BadPromise", "Unkept", "NoPromise"] "promise" (dVar 5)) (dCons (dFldX ["Unkept"] "fault" (dVar 5)) (dCons (dFldX ["Unkept"] "fault" (dVar 6)) (dCons (dFldX ["BadName", "NameTaken", "NoName", "Unkept", "Needed"] "name" (dVar 6)) (dCons (dFldX ["BadPromise", "Unkept", "NoPromise"] "promise" (dVar 6)) dNil))))))) dNil)) (dCallB (one reprAD) (dCons (dLst (dCons (dVar 2) (dCons (dVar 3) (dCons (dVar 4) (dCons (dVar 2) (dCons (dVar 3) (dCons (dVar 4) dNil))))))) dNil)))) (sRet (ep (.bl false))) sNx)
def d__law_wide_right_3 : MS := (sPar 5 6 (dCons (dExcN "Needed" ["name", "other"] (dCons (dVar 2) (dCons (dVar 3) dNil))) (dCons (dExcN "Needed" ["other", "name"] (dCons (dVar 2) (dCons (dVar 4) dNil))) dNil)))
def d__law_wide_right_4 : MS := (sIf (dB (dOp (eqD true) (dCallB (one reprAD) (dCons (dLst (dCons (dFldX ["BadName", "NameTaken", "NoName", "Unkept", "Needed"] "name" (dVar 5)) (dCons (dFldX ["Needed"] "other" (dVar 5)) (dCons (dFldX ["Needed"] "other" (dVar 6)) (dCons (dFldX ["BadName", "NameTaken", "NoName", "Unkept", "Needed"] "name" (dVar 6)) dNil))))) dNil)) (dCallB (one reprAD) (dCons (dLst (dCons (dVar 2) (dCons (dVar 3) (dCons (dVar 2) (dCons (dVar 4) dNil))))) dNil)))) (sRet (ep (.bl false))) sNx)
def d__law_wide_right_5 : MS := (sPar 5 6 (dCons (dExcN "NoStretch" ["low", "high"] (dCons (dVar 2) (dCons (dVar 3) dNil))) (dCons (dExcN "NoStretch" ["high", "low"] (dCons (dVar 2) (dCons (dVar 4) dNil))) dNil)))
def d__law_wide_right_6 : MS := (sIf (dB (dOp (eqD true) (dCallB (one reprAD) (dCons (dLst (dCons (dFldX ["NoStretch"] "low" (dVar 5)) (dCons (dFldX ["NoStretch"] "high" (dVar 5)) (dCons (dFldX ["NoStretch"] "high" (dVar 6)) (dCons (dFldX ["NoStretch"] "low" (dVar 6)) dNil))))) dNil)) (dCallB (one reprAD) (dCons (dLst (dCons (dVar 2) (dCons (dVar 3) (dCons (dVar 2) (dCons (dVar 4) dNil))))) dNil)))) (sRet (ep (.bl false))) sNx)
def d__law_wide_right_7 : MS := (sAsg (dLc (dItems (dTup (dCons (dExcN "Unkept" ["name", "promise", "fault"] (dCons (dVar 2) (dCons (dVar 3) (dCons (dVar 4) dNil)))) (dCons (dExcN "Needed" ["name", "other"] (dCons (dVar 2) (dCons (dVar 3) dNil))) (dCons (dExcN "NoStretch" ["low", "high"] (dCons (dVar 2) (dCons (dVar 3) dNil))) dNil))))) (mName 7) (ep true) (dCall fn__law_kinds (dCons (dVar 7) dNil)) [7]) (mName 1))
def d__law_wide_right_8 : MS := (sRet (dOp (eqD false) (dLc (dItems (dVar 1)) (mName 8) (ep true) (dMethT "list" cntBD (dVar 8) (dCons (ep (.bl true)) dNil)) [8]) (dLst (dCons (ep (.int 1)) (dCons (ep (.int 1)) (dCons (ep (.int 1)) dNil))))))
theorem sc__law_wide_right : FnScope ["_law_deck_here", "_law_every", "_law_a", "_law_b", "_law_c", "_law_near", "_law_far", "_law_it", "_law_kinds_here"] ["_law_deck_here"] (defScope (top 39)) := ⟨rfl, rfl, rfl, by decide +kernel, rfl, by decide +kernel, by decide +kernel⟩
def d__law_wide_right : MS := (ss d__law_wide_right_0
    (ss d__law_wide_right_1
    (ss d__law_wide_right_2
    (ss d__law_wide_right_3
    (ss d__law_wide_right_4
    (ss d__law_wide_right_5
    (ss d__law_wide_right_6
    (ss d__law_wide_right_7
    d__law_wide_right_8))))))))
def fn__law_wide_right : Fn := fnDen 1 9 d__law_wide_right
theorem ok__law_wide_right {P : Program} {w : World} {K : PySem.W.Frag} {mg : Str → Option Value} {base : Heap} {f : Addr} {fd : FuncData} {a__law_value : Addr} {e__law_value : FuncData} {C_Unkept : Addr} {I_Unkept : Addr} {C_Needed : Addr} {I_Needed : Addr} {C_NoStretch : Addr} {I_NoStretch : Addr} {a__law_kinds : Addr} {e__law_kinds : FuncData} (c__law_value : Ce P w K mg base 3 "_law_value" ["_law_deck_here"] fn__law_value a__law_value e__law_value) (xn_Unkept : XN.ExcN P K mg "Unkept" xd_Unkept.qual xd_Unkept.a xd_Unkept.q xp_Unkept C_Unkept I_Unkept) (xf_BadPromise_Unkept_NoPromise_promise : ∀ c ∈ (["BadPromise", "Unkept", "NoPromise"] : List Str), ∀ C, clOf mg c = some C → XFld K C "promise") (xf_BadName_NameTaken_NoName_Unkept_Needed_name : ∀ c ∈ (["BadName", "NameTaken", "NoName", "Unkept", "Needed"] : List Str), ∀ C, clOf mg c = some C → XFld K C "name") (xf_Unkept_fault : ∀ c ∈ (["Unkept"] : List Str), ∀ C, clOf mg c = some C → XFld K C "fault") (sys : ∃ o, base.get? sysModules = some o) (m_repr : mg "repr" = none) (xn_Needed : XN.ExcN P K mg "Needed" xd_Needed.qual xd_Needed.a xd_Needed.q xp_Needed C_Needed I_Needed) (xf_Needed_other : ∀ c ∈ (["Needed"] : List Str), ∀ C, clOf mg c = some C → XFld K C "other") (xn_NoStretch : XN.ExcN P K mg "NoStretch" xd_NoStretch.qual xd_NoStretch.a xd_NoStretch.q xp_NoStretch C_NoStretch I_NoStretch) (xf_NoStretch_low : ∀ c ∈ (["NoStretch"] : List Str), ∀ C, clOf mg c = some C → XFld K C "low") (xf_NoStretch_high : ∀ c ∈ (["NoStretch"] : List Str), ∀ C, clOf mg c = some C → XFld K C "high") (c__law_kinds : Ce P w K mg base 1 "_law_kinds" ["_law_it"] fn__law_kinds a__law_kinds e__law_kinds) (F : FD K "_law_wide_right" 39 f fd) : FnG P w K mg base 4 f fd ["_law_deck_here"] (spD K (clOf mg) fn__law_wide_right) :=
  fn_okD F sc__law_wide_right fun cdv A outer s H E gd hr => ⟨_, (us_cons (us_par3 (i := 2) (j := 3) (l := 4) (by rfl) sc__law_wide_right.nd (ua_cons (u_call c__law_value.ok gd (hr.mono (by decide)) c__law_value.g c__law_value.k c__law_value.b (takes_of rfl rfl rfl rfl) (ua_cons (u_var 0 (pv 0)) ua_nil)) (ua_cons (u_call c__law_value.ok gd (hr.mono (by decide)) c__law_value.g c__law_value.k c__law_value.b (takes_of rfl rfl rfl rfl) (ua_cons (u_var 0 (pv 0)) ua_nil)) (ua_cons (u_call c__law_value.ok gd (hr.mono (by decide)) c__law_value.g c__law_value.k c__law_value.b (takes_of rfl rfl rfl rfl) (ua_cons (u_var 0 (pv 0)) ua_nil)) ua_nil))))
    (us_cons (us_par (i := 5) (j := 6) (by rfl) sc__law_wide_right.nd (ua_cons (u_excN xn_Unkept ev_Unkept bi_Unkept (List.cons_ne_nil _ _) (Nat.le_of_ble_eq_true rfl) hr (ua_cons (u_var 2 (pv 2)) (ua_cons (u_var 3 (pv 3)) (ua_cons (u_var 4 (pv 4)) ua_nil)))) (ua_cons (u_excNK (ks := ["fault", "name", "promise"]) xn_Unkept ev_Unkept bk_Unkept_2_0_1 (List.cons_ne_nil _ _) (Nat.le_of_ble_eq_true rfl) hr (uk_cons (u_var 2 (pv 2)) (uk_cons (u_var 3 (pv 3)) (uk_cons (u_var 4 (pv 4)) uk_nil)))) ua_nil)))
    (us_cons (us_if (ut_cmp (op_neG hr.units) sn_eq (u_callB (call_reprA sys gd (by have u := hu200 hr; exact u)) sn_reprA (by rfl) m_repr (by decide +kernel) (ua_cons (u_lst (ua_cons (u_fldX (ns := ["BadName", "NameTaken", "NoName", "Unkept", "Needed"]) xf_BadName_NameTaken_NoName_Unkept_Needed_name (u_var 5 (pv 5))) (ua_cons (u_fldX (ns := ["BadPromise", "Unkept", "NoPromise"]) xf_BadPromise_Unkept_NoPromise_promise (u_var 5 (pv 5))) (ua_cons (u_fldX (ns := ["Unkept"]) xf_Unkept_fault (u_var 5 (pv 5))) (ua_cons (u_fldX (ns := ["Unkept"]) xf_Unkept_fault (u_var 6 (pv 6))) (ua_cons (u_fldX (ns := ["BadName", "NameTaken", "NoName", "Unkept", "Needed"]) xf_BadName_NameTaken_NoName_Unkept_Needed_name (u_var 6 (pv 6))) (ua_cons (u_fldX (ns := ["BadPromise", "Unkept", "NoPromise"]) xf_BadPromise_Unkept_NoPromise_promise (u_var 6 (pv 6))) ua_nil))))))) ua_nil)) (u_callB (call_reprA sys gd (by have u := hu200 hr; exact u)) sn_reprA (by rfl) m_repr (by decide +kernel) (ua_cons (u_lst (ua_cons (u_var 2 (pv 2)) (ua_cons (u_var 3 (pv 3)) (ua_cons (u_var 4 (pv 4)) (ua_cons (u_var 2 (pv 2)) (ua_cons (u_var 3 (pv 3)) (ua_cons (u_var 4 (pv 4)) ua_nil))))))) ua_nil)) (nomark _)) (us_one (us_ret u_bl)) us_nil)
    (us_cons (us_par (i := 5) (j := 6) (by rfl) sc__law_wide_right.nd (ua_cons (u_excN xn_Needed ev_Needed bi_Needed (List.cons_ne_nil _ _) (Nat.le_of_ble_eq_true rfl) hr (ua_cons (u_var 2 (pv 2)) (ua_cons (u_var 3 (pv 3)) ua_nil))) (ua_cons (u_excNK (ks := ["other", "name"]) xn_Needed ev_Needed bk_Needed_1_0 (List.cons_ne_nil _ _) (Nat.le_of_ble_eq_true rfl) hr (uk_cons (u_var 2 (pv 2)) (uk_cons (u_var 4 (pv 4)) uk_nil))) ua_nil)))
    (us_cons (us_if (ut_cmp (op_neG hr.units) sn_eq (u_callB (call_reprA sys gd (by have u := hu200 hr; exact u)) sn_reprA (by rfl) m_repr (by decide +kernel) (ua_cons (u_lst (ua_cons (u_fldX (ns := ["BadName", "NameTaken", "NoName", "Unkept", "Needed"]) xf_BadName_NameTaken_NoName_Unkept_Needed_name (u_var 5 (pv 5))) (ua_cons (u_fldX (ns := ["Needed"]) xf_Needed_other (u_var 5 (pv 5))) (ua_cons (u_fldX (ns := ["Needed"]) xf_Needed_other (u_var 6 (pv 6))) (ua_cons (u_fldX (ns := ["BadName", "NameTaken", "NoName", "Unkept", "Needed"]) xf_BadName_NameTaken_NoName_Unkept_Needed_name (u_var 6 (pv 6))) ua_nil))))) ua_nil)) (u_callB (call_reprA sys gd (by have u := hu200 hr; exact u)) sn_reprA (by rfl) m_repr (by decide +kernel) (ua_cons (u_lst (ua_cons (u_var 2 (pv 2)) (ua_cons (u_var 3 (pv 3)) (ua_cons (u_var 2 (pv 2)) (ua_cons (u_var 4 (pv 4)) ua_nil))))) ua_nil)) (nomark _)) (us_one (us_ret u_bl)) us_nil)
    (us_cons (us_par (i := 5) (j := 6) (by rfl) sc__law_wide_right.nd (ua_cons (u_excN xn_NoStretch ev_NoStretch bi_NoStretch (List.cons_ne_nil _ _) (Nat.le_of_ble_eq_true rfl) hr (ua_cons (u_var 2 (pv 2)) (ua_cons (u_var 3 (pv 3)) ua_nil))) (ua_cons (u_excNK (ks := ["high", "low"]) xn_NoStretch ev_NoStretch bk_NoStretch_1_0 (List.cons_ne_nil _ _) (Nat.le_of_ble_eq_true rfl) hr (uk_cons (u_var 2 (pv 2)) (uk_cons (u_var 4 (pv 4)) uk_nil))) ua_nil)))
    (us_cons (us_if (ut_cmp (op_neG hr.units) sn_eq (u_callB (call_reprA sys gd (by have u := hu200 hr; exact u)) sn_reprA (by rfl) m_repr (by decide +kernel) (ua_cons (u_lst (ua_cons (u_fldX (ns := ["NoStretch"]) xf_NoStretch_low (u_var 5 (pv 5))) (ua_cons (u_fldX (ns := ["NoStretch"]) xf_NoStretch_high (u_var 5 (pv 5))) (ua_cons (u_fldX (ns := ["NoStretch"]) xf_NoStretch_high (u_var 6 (pv 6))) (ua_cons (u_fldX (ns := ["NoStretch"]) xf_NoStretch_low (u_var 6 (pv 6))) ua_nil))))) ua_nil)) (u_callB (call_reprA sys gd (by have u := hu200 hr; exact u)) sn_reprA (by rfl) m_repr (by decide +kernel) (ua_cons (u_lst (ua_cons (u_var 2 (pv 2)) (ua_cons (u_var 3 (pv 3)) (ua_cons (u_var 2 (pv 2)) (ua_cons (u_var 4 (pv 4)) ua_nil))))) ua_nil)) (nomark _)) (us_one (us_ret u_bl)) us_nil)
    (us_cons (us_setLc (i := 1) (by rfl) sc__law_wide_right.nd (ui_any (u_tup (ua_cons (u_excN xn_Unkept ev_Unkept bi_Unkept (List.cons_ne_nil _ _) (Nat.le_of_ble_eq_true rfl) hr (ua_cons (u_var 2 (pv 2)) (ua_cons (u_var 3 (pv 3)) (ua_cons (u_var 4 (pv 4)) ua_nil)))) (ua_cons (u_excN xn_Needed ev_Needed bi_Needed (List.cons_ne_nil _ _) (Nat.le_of_ble_eq_true rfl) hr (ua_cons (u_var 2 (pv 2)) (ua_cons (u_var 3 (pv 3)) ua_nil))) (ua_cons (u_excN xn_NoStretch ev_NoStretch bi_NoStretch (List.cons_ne_nil _ _) (Nat.le_of_ble_eq_true rfl) hr (ua_cons (u_var 2 (pv 2)) (ua_cons (u_var 3 (pv 3)) ua_nil))) ua_nil))))) (blkOk_by (own := [("_law_it", 7)]) (by kernel_rfl)) (by decide) (fun _ _ _ _ _ => castG (ug_name (i := 7) sc__law_wide_right.nd)) (fun _ _ _ _ _ => castTs uts_nil) (fun _ _ _ _ _ => castE (u_call c__law_kinds.ok gd (hr.mono (by decide)) c__law_kinds.g c__law_kinds.k c__law_kinds.b takes0 (ua_cons (u_var 7 (pv 7)) ua_nil))) (sw_true rfl rfl rfl (by decide +kernel)))
    (us_one (us_ret (u_cmp (op_eqG hr.units) sn_eq (u_lc (by rfl) sc__law_wide_right.nd (ui_any (u_var 1 (pv 1))) (blkOk_by (own := [("_law_kinds_here", 8)]) (by kernel_rfl)) (by decide) (fun _ _ _ _ _ => castG (ug_name (i := 8) sc__law_wide_right.nd)) (fun _ _ _ _ _ => castTs uts_nil) (fun _ _ _ _ _ => castE (u_meth PySem.F.plainAttrs_list PySem.F.slot_list_count PySem.F.type_list_count mt_cntF sn_cntB (u_var 8 (pv 8)) (ua_cons u_bl ua_nil)))) (u_lst (ua_cons u_int (ua_cons u_int (ua_cons u_int ua_nil)))) (nomark _))))))))))))⟩
def d_law_0 : MS := (sAsgO 2 (dCall fn__law_bare dNil))
def d_law_1_b : MS := (ss (sPar 6 7 (dCons (dCall fn__law_value (dCons (dVar 1) dNil)) (dCons (dCall fn__law_value (dCons (dVar 1) dNil)) dNil)))
    (sFor (dItems (dCall fn__law_made (dCons (dVar 3) (dCons (dVar 6) (dCons (dVar 7) dNil))))) (mTup 3 (mCons (mName 8) (mCons (mName 9) (mCons (mName 10) mNil)))) (ss (sIf (dB (dOp (eqD true) (dCallB (one reprAD) (dCons (dLst (dCons (dCall fn__law_borne (dCons (dVar 8) (dCons (dVar 10) dNil))) (dCons (dCall fn__law_borne (dCons (dVar 9) (dCons (dVar 10) dNil))) dNil))) dNil)) (dCallB (one reprAD) (dCons (dLst (dCons (dVar 6) (dCons (dVar 7) dNil))) dNil)))) (sRet (ep (.bl false))) sNx)
    (ss (sIf (dB (dOp (eqD true) (dCall fn__law_kinds (dCons (dVar 8) dNil)) (dCall fn__law_kinds (dCons (dVar 9) dNil)))) (sRet (ep (.bl false))) sNx)
    (sGrow appF 2 (dVar 8))))))
def d_law_1 : MS := (sFor (eb (dCons (ep (.int 9)) dNil) fun ds => eo (rng1 ds)) (mName 3) d_law_1_b)
def d_law_2 : MS := (sIf (dB (dOp (eq0D true) (dLc (dItems (dVar 2)) (mName 12) (dOr (dNot (dB (dUn (isiN xt_TallyError) (dVar 12)))) (dNot (dB (dUn (isiN xt_TallyError) (dVar 12))))) (dVar 12) [12]) (dLst dNil))) (sRet (ep (.bl false))) sNx)
def d_law_3 : MS := (sIf (dB (dOp (eq0D true) (dLc (dItems (dVar 2)) (mName 12) (dB (dOp (eqD true) (dMethT "list" cntBD (dCall fn__law_kinds (dCons (dVar 12) dNil)) (dCons (ep (.bl true)) dNil)) (ep (.int 1)))) (dVar 12) [12]) (dLst dNil))) (sRet (ep (.bl false))) sNx)
def d_law_4 : MS := (sAsg (dLc (eb (dCons (ep (.int 10)) dNil) fun ds => eo (rng1 ds)) (mName 3) (ep true) (dCall fn__law_caught (dCons (dVar 3) (dCons (dCall fn__law_value (dCons (dVar 1) dNil)) dNil))) [3]) (mName 4))
def d_law_5 : MS := (sAsg (dLc (dItems (dVar 4)) (mName 11) (dB (dOp (eqD false) (dMethT "list" cntBD (dVar 11) (dCons (ep (.bl true)) dNil)) (ep (.int 1)))) (dMethT "list" indexD (dVar 11) (dCons (ep (.bl true)) dNil)) [11]) (mName 5))
def d_law_6 : MS := (sRet (dAndV (dOp (eqD false) (dCallB (one lenD) (dCons (dVar 5) dNil)) (ep (.int 10))) (dAndV (dOp (eqD false) (dUn lenSetD (dVar 5)) (ep (.int 10))) (dCall fn__law_wide_right (dCons (dVar 1) dNil)))))
theorem sc_law : FnScope ["_law_script", "_law_deck_here", "_law_some", "_law_which", "_law_told", "_law_places", "_law_a", "_law_b", "_law_near", "_law_far", "_law_mark", "_law_kinds_here", "_law_it"] ["_law_script"] (defScope (top 40)) := ⟨rfl, rfl, rfl, by decide +kernel, rfl, by decide +kernel, by decide +kernel⟩
def d_law : MS := (ss d_law_0
    (ss d_law_1
    (sFrz 2 (ss d_law_2
    (ss d_law_3
    (ss d_law_4
    (ss d_law_5
    d_law_6)))))))
def d_first : ME D := (dCall fn__law_deck (dCons (dVar 0) dNil))
theorem ok_law {P : Program} {w : World} {K : PySem.W.Frag} {mg : Str → Option Value} {base : Heap} {f : Addr} {fd : FuncData} {a__law_deck : Addr} {e__law_deck : FuncData} {a__law_bare : Addr} {e__law_bare : FuncData} {a__law_value : Addr} {e__law_value : FuncData} {a__law_made : Addr} {e__law_made : FuncData} {a__law_borne : Addr} {e__law_borne : FuncData} {a__law_kinds : Addr} {e__law_kinds : FuncData} {C_TallyError : Addr} {a__law_caught : Addr} {e__law_caught : FuncData} {a__law_wide_right : Addr} {e__law_wide_right : FuncData} (c__law_deck : Ce P w K mg base 1 "_law_deck" ["_law_script"] fn__law_deck a__law_deck e__law_deck) (c__law_bare : CeF P w K mg base 1 "_law_bare" [] fn__law_bare a__law_bare e__law_bare) (m_range : mg "range" = none) (c__law_value : Ce P w K mg base 3 "_law_value" ["_law_deck_here"] fn__law_value a__law_value e__law_value) (c__law_made : Ce P w K mg base 1 "_law_made" ["_law_which", "_law_a", "_law_b"] fn__law_made a__law_made e__law_made) (c__law_borne : Ce P w K mg base 1 "_law_borne" ["_law_it", "_law_mark"] fn__law_borne a__law_borne e__law_borne) (sys : ∃ o, base.get? sysModules = some o) (m_repr : mg "repr" = none) (c__law_kinds : Ce P w K mg base 1 "_law_kinds" ["_law_it"] fn__law_kinds a__law_kinds e__law_kinds) (in_TallyError : IsN K (clOf mg) (.ref C_TallyError) xt_TallyError) (g_TallyError : mg "TallyError" = some (.ref C_TallyError)) (m_isinstance : mg "isinstance" = none) (in_Exception : IsN K (clOf mg) (.type "Exception") xt_TallyError) (m_Exception : mg "Exception" = none) (c__law_caught : Ce P w K mg base 2 "_law_caught" ["_law_which", "_law_a"] fn__law_caught a__law_caught e__law_caught) (m_len : mg "len" = none) (m_set : mg "set" = none) (c__law_wide_right : Ce P w K mg base 4 "_law_wide_right" ["_law_deck_here"] fn__law_wide_right a__law_wide_right e__law_wide_right) (F : FD K "law" 40 f fd) (law : ∀ ns : List Int, ns.length ≤ 63 → ∃ bl dr cs m t, d_first (.val (.scr ns) :: List.replicate 12 .emp) ⟨none, none⟩ = .ok (deckD bl dr cs m t) ⟨none, none⟩ ∧ ∃ k', d_law (.val (.scr ns) :: .val .deck :: List.replicate 11 .emp) ⟨some ⟨cs, m, t, bl, dr⟩, none⟩ = .ret (.bl true) k') : FnG P w K mg base 5 f fd ["_law_script"] (spL K 63) :=
  fn_law F sc_law rfl (fun cdv A outer s H E gd hr => (fun u => ⟨_, us_set (i := 1) sc_law.nd u, u.sn⟩) (u_call c__law_deck.ok gd (hr.mono (by decide)) c__law_deck.g c__law_deck.k c__law_deck.b (takes_of rfl rfl rfl rfl) (ua_cons (u_var 0 (pv 0)) ua_nil))) (fun cdv A outer s H E gd hr => ⟨_, (us_cons (us_asgO (i := 2) sc_law.nd (uf_call0 (j := 1) (g := fn__law_bare) c__law_bare.ok gd (hr.mono (by decide)) c__law_bare.g c__law_bare.k c__law_bare.b (takes_of rfl rfl rfl rfl)))
    (us_cons (us_for (passes_of rfl) (by rfl) (ui_rng1 (by rfl) m_range (ua_cons u_int ua_nil)) (ug_name (i := 3) sc_law.nd) (us_cons (us_par (i := 6) (j := 7) (by rfl) sc_law.nd (ua_cons (u_call c__law_value.ok gd (hr.mono (by decide)) c__law_value.g c__law_value.k c__law_value.b (takes_of rfl rfl rfl rfl) (ua_cons (u_var 1 (pv 1)) ua_nil)) (ua_cons (u_call c__law_value.ok gd (hr.mono (by decide)) c__law_value.g c__law_value.k c__law_value.b (takes_of rfl rfl rfl rfl) (ua_cons (u_var 1 (pv 1)) ua_nil)) ua_nil)))
    (us_one (us_for (passes_of rfl) (by rfl) (ui_any (u_call c__law_made.ok gd (hr.mono (by decide)) c__law_made.g c__law_made.k c__law_made.b (takes_of rfl rfl rfl rfl) (ua_cons (u_var 3 (pv 3)) (ua_cons (u_var 6 (pv 6)) (ua_cons (u_var 7 (pv 7)) ua_nil))))) (ug_tup (by rfl) (ugs_cons (ug_name (i := 8) sc_law.nd) (ugs_cons (ug_name (i := 9) sc_law.nd) (ugs_cons (ug_name (i := 10) sc_law.nd) ugs_nil)))) (us_cons (us_if (ut_cmp (op_neG hr.units) sn_eq (u_callB (call_reprA sys gd (by have u := hu200 hr; exact u)) sn_reprA (by rfl) m_repr (by decide +kernel) (ua_cons (u_lst (ua_cons (u_call c__law_borne.ok gd (hr.mono (by decide)) c__law_borne.g c__law_borne.k c__law_borne.b (takes_of rfl rfl rfl rfl) (ua_cons (u_var 8 (pv 8)) (ua_cons (u_var 10 (pv 10)) ua_nil))) (ua_cons (u_call c__law_borne.ok gd (hr.mono (by decide)) c__law_borne.g c__law_borne.k c__law_borne.b (takes_of rfl rfl rfl rfl) (ua_cons (u_var 9 (pv 9)) (ua_cons (u_var 10 (pv 10)) ua_nil))) ua_nil))) ua_nil)) (u_callB (call_reprA sys gd (by have u := hu200 hr; exact u)) sn_reprA (by rfl) m_repr (by decide +kernel) (ua_cons (u_lst (ua_cons (u_var 6 (pv 6)) (ua_cons (u_var 7 (pv 7)) ua_nil))) ua_nil)) (nomark _)) (us_one (us_ret u_bl)) us_nil)
    (us_cons (us_if (ut_cmp (op_neG hr.units) sn_eq (u_call c__law_kinds.ok gd (hr.mono (by decide)) c__law_kinds.g c__law_kinds.k c__law_kinds.b (takes_of rfl rfl rfl rfl) (ua_cons (u_var 8 (pv 8)) ua_nil)) (u_call c__law_kinds.ok gd (hr.mono (by decide)) c__law_kinds.g c__law_kinds.k c__law_kinds.b (takes_of rfl rfl rfl rfl) (ua_cons (u_var 9 (pv 9)) ua_nil)) (nomark _)) (us_one (us_ret u_bl)) us_nil)
    (us_one (us_append (i := 2) (u_var 8 (pv 8)) (pv 2)))))))))
    (us_frz 2 (us_cons (us_if (ut_cmp (op_ne0 (Nat.lt_of_le_of_lt (Nat.le_add_right _ 64) hr.units)) sn_eq0 (u_lc (by rfl) sc_law.nd (ui_any (u_var 2 (pv 2))) (blkOk_by (own := [("_law_it", 12)]) (by kernel_rfl)) (by decide) (fun _ _ _ _ _ => castG (ug_name (i := 12) sc_law.nd)) (fun _ _ _ _ _ => castTs (uts_one (UW.ut (uw_or (ut_not (ut_val (u_isiNC in_TallyError (by rfl) m_isinstance g_TallyError (u_var 12 (pv 12))))) (uw_or1 (ut_not (ut_val (u_isiNT in_Exception (by rfl) m_isinstance m_Exception (by decide +kernel) (u_var 12 (pv 12)))))))))) (fun _ _ _ _ _ => castE (u_var 12 (pv 12)))) (u_lst ua_nil) (nomark _)) (us_one (us_ret u_bl)) us_nil)
    (us_cons (us_if (ut_cmp (op_ne0 (Nat.lt_of_le_of_lt (Nat.le_add_right _ 64) hr.units)) sn_eq0 (u_lc (by rfl) sc_law.nd (ui_any (u_var 2 (pv 2))) (blkOk_by (own := [("_law_it", 12)]) (by kernel_rfl)) (by decide) (fun _ _ _ _ _ => castG (ug_name (i := 12) sc_law.nd)) (fun _ _ _ _ _ => castTs (uts_one (ut_cmp (op_neG hr.units) sn_eq (u_meth PySem.F.plainAttrs_list PySem.F.slot_list_count PySem.F.type_list_count mt_cntF sn_cntB (u_call c__law_kinds.ok gd (hr.mono (by decide)) c__law_kinds.g c__law_kinds.k c__law_kinds.b takes0 (ua_cons (u_var 12 (pv 12)) ua_nil)) (ua_cons u_bl ua_nil)) u_int (nomark _)))) (fun _ _ _ _ _ => castE (u_var 12 (pv 12)))) (u_lst ua_nil) (nomark _)) (us_one (us_ret u_bl)) us_nil)
    (us_cons (us_setLc (i := 4) (by rfl) sc_law.nd (ui_rng1 (by rfl) m_range (ua_cons u_int ua_nil)) (blkOk_by (own := [("_law_which", 3)]) (by kernel_rfl)) (by decide) (fun _ _ _ _ _ => castG (ug_name (i := 3) sc_law.nd)) (fun _ _ _ _ _ => castTs uts_nil) (fun _ _ _ _ _ => castE (u_call c__law_caught.ok gd (hr.mono (by decide)) c__law_caught.g c__law_caught.k c__law_caught.b takes0 (ua_cons (u_var 3 (pv 3)) (ua_cons (u_call c__law_value.ok gd (hr.mono (by decide)) c__law_value.g c__law_value.k c__law_value.b takes0 (ua_cons (u_var 1 (pv 1)) ua_nil)) ua_nil)))) (sw_true rfl rfl rfl (by decide +kernel)))
    (us_cons (us_setLc (i := 5) (by rfl) sc_law.nd (ui_any (u_var 4 (pv 4))) (blkOk_by (own := [("_law_kinds_here", 11)]) (by kernel_rfl)) (by decide) (fun _ _ _ _ _ => castG (ug_name (i := 11) sc_law.nd)) (fun _ _ _ _ _ => castTs (uts_one (ut_cmp (op_eqG hr.units) sn_eq (u_meth PySem.F.plainAttrs_list PySem.F.slot_list_count PySem.F.type_list_count mt_cntF sn_cntB (u_var 11 (pv 11)) (ua_cons u_bl ua_nil)) u_int (nomark _)))) (fun _ _ _ _ _ => castE (u_meth PySem.F.plainAttrs_list PySem.F.slot_list_index PySem.F.type_list_index (mt_indexD (hu65 hr)) sn_index (u_var 11 (pv 11)) (ua_cons u_bl ua_nil))) (sw_true rfl rfl rfl (by decide +kernel)))
    (us_one (us_ret (u_and (u_cmp (op_eqG hr.units) sn_eq (u_callB call_lens sn_len (by rfl) m_len PySem.boot_len (ua_cons (u_var 5 (pv 5)) ua_nil)) u_int (nomark _)) (u_and (u_cmp (op_eqG hr.units) sn_eq (u_lenSet (by rfl) (by rfl) m_len (by rfl) m_set (u_var 5 (pv 5))) u_int (nomark _)) (u_one (u_call c__law_wide_right.ok gd (hr.mono (by decide)) c__law_wide_right.g c__law_wide_right.k c__law_wide_right.b (takes_of rfl rfl rfl rfl) (ua_cons (u_var 1 (pv 1)) ua_nil))))))))))))))⟩) (by decide) law
end K00
namespace G
open PySem PySem.Spec PyProof.Rows L2
/-! ### plain: values of any kind, the size of their leaves, the length of their tuples -/
mutual
def lfD : D → Nat
  | .int i => i.natAbs.log2 + 2
  | .str z => z.length + 1
  | .tup xs => lfDs xs
  | .lst xs => lfDs xs
  | _ => 0
def lfDs : List D → Nat
  | [] => 0
  | x :: xs => max (lfD x) (lfDs xs)
end
mutual
def mlD : D → Nat
  | .tup xs => max xs.length (mlDs xs)
  | .lst xs => max xs.length (mlDs xs)
  | _ => 0
def mlDs : List D → Nat
  | [] => 0
  | x :: xs => max (mlD x) (mlDs xs)
end
theorem lfD_tup (xs : List D) : lfD (.tup xs) = lfDs xs := by rw [lfD]
theorem lfD_lst (xs : List D) : lfD (.lst xs) = lfDs xs := by rw [lfD]
theorem lfD_int (i : Int) : lfD (.int i) = i.natAbs.log2 + 2 := by rw [lfD]
theorem lfD_str (z : Str) : lfD (.str z) = z.length + 1 := by rw [lfD]
theorem lfDs_cons (x : D) (xs : List D) : lfDs (x :: xs) = max (lfD x) (lfDs xs) := by rw [lfDs]
theorem lfDs_nil : lfDs [] = 0 := by rw [lfDs]
theorem mlD_tup (xs : List D) : mlD (.tup xs) = max xs.length (mlDs xs) := by rw [mlD]
theorem mlD_lst (xs : List D) : mlD (.lst xs) = max xs.length (mlDs xs) := by rw [mlD]
theorem mlDs_cons (x : D) (xs : List D) : mlDs (x :: xs) = max (mlD x) (mlDs xs) := by rw [mlDs]
theorem mlDs_nil : mlDs [] = 0 := by rw [mlDs]
theorem lfDs_le {f : Nat} : ∀ {xs : List D}, lfDs xs ≤ f ↔ ∀ x ∈ xs, lfD x ≤ f
  | [] => by rw [lfDs_nil]; exact ⟨fun _ _ h => absurd h List.not_mem_nil, fun _ => Nat.zero_le _⟩
  | x :: xs => by
    rw [lfDs_cons, Nat.max_le, lfDs_le]
    exact ⟨fun h y hy => by
      rcases List.mem_cons.mp hy with rfl | hy
      · exact h.1
      · exact h.2 y hy, fun h => ⟨h x (List.mem_cons_self ..), fun y hy => h y (List.mem_cons_of_mem _ hy)⟩⟩
theorem mlDs_le {f : Nat} : ∀ {xs : List D}, mlDs xs ≤ f ↔ ∀ x ∈ xs, mlD x ≤ f
  | [] => by rw [mlDs_nil]; exact ⟨fun _ _ h => absurd h List.not_mem_nil, fun _ => Nat.zero_le _⟩
  | x :: xs => by
    rw [mlDs_cons, Nat.max_le, mlDs_le]
    exact ⟨fun h y hy => by
      rcases List.mem_cons.mp hy with rfl | hy
      · exact h.1
      · exact h.2 y hy, fun h => ⟨h x (List.mem_cons_self ..), fun y hy => h y (List.mem_cons_of_mem _ hy)⟩⟩
/-- a value of weight w, leaves up to f, tuples up to l, depth h -/
structure Vb (w f l h : Nat) (d : D) : Prop where
  a : Va w h d
  f : lfD d ≤ f
  l : mlD d ≤ l
structure Vbs (w f l h : Nat) (ds : List D) : Prop where
  a : Vas w h ds
  f : ∀ x ∈ ds, lfD x ≤ f
  l : ∀ x ∈ ds, mlD x ≤ l
section
variable {w f l h w' f' l' h' : Nat} {d : D} {ds es : List D}
theorem Vb.v (a : Vb w f l h d) : vD d = true := a.a.v
theorem Vb.mono (a : Vb w f l h d) (hw : w ≤ w') (hf : f ≤ f') (hl : l ≤ l') (hh : h ≤ h') : Vb w' f' l' h' d := ⟨a.a.mono hw hh, Nat.le_trans a.f hf, Nat.le_trans a.l hl⟩
theorem Vbs.mono (a : Vbs w f l h ds) (hw : w ≤ w') (hf : f ≤ f') (hl : l ≤ l') (hh : h ≤ h') : Vbs w' f' l' h' ds := ⟨a.a.mono hw hh, fun x hx => Nat.le_trans (a.f x hx) hf, fun x hx => Nat.le_trans (a.l x hx) hl⟩
theorem Vbs.nil : Vbs 0 f l h [] := ⟨Vas.nil, fun _ h => absurd h List.not_mem_nil, fun _ h => absurd h List.not_mem_nil⟩
theorem Vbs.cons (a : Vb w f l h d) (b : Vbs w' f l h ds) : Vbs (w + w') f l h (d :: ds) := ⟨Vas.cons a.a b.a, fun x hx => by
    rcases List.mem_cons.mp hx with rfl | hx
    · exact a.f
    · exact b.f x hx, fun x hx => by
    rcases List.mem_cons.mp hx with rfl | hx
    · exact a.l
    · exact b.l x hx⟩
theorem Vbs.app (a : Vbs w f l h ds) (b : Vbs w' f l h es) : Vbs (w + w') f l h (ds ++ es) := ⟨a.a.app b.a, fun x hx => by
    rcases List.mem_append.mp hx with hx | hx
    · exact a.f x hx
    · exact b.f x hx, fun x hx => by
    rcases List.mem_append.mp hx with hx | hx
    · exact a.l x hx
    · exact b.l x hx⟩
theorem Vbs.sub (a : Vbs w f l h ds) (b : Vas w' h' es) (s : ∀ x ∈ es, x ∈ ds) : Vbs w' f l h' es := ⟨b, fun x hx => a.f x (s x hx), fun x hx => a.l x (s x hx)⟩
theorem Vbs.mem (a : Vbs w f l h ds) (m : d ∈ ds) : Vb w f l h d := ⟨a.a.mem m, a.f d m, a.l d m⟩
theorem Vbs.one (a : Vb w f l h d) : Vbs w f l h [d] := Vbs.cons (w' := 0) a .nil
theorem Vbs.len (a : Vbs w f l h ds) : ds.length ≤ w := a.a.len
theorem Vbs.take (a : Vbs w f l h ds) (n : Nat) : Vbs w f l h (ds.take n) := a.sub (a.a.take n) fun _ hx => List.mem_of_mem_take hx
theorem Vbs.drop (a : Vbs w f l h ds) (n : Nat) : Vbs w f l h (ds.drop n) := a.sub (a.a.drop n) fun _ hx => List.mem_of_mem_drop hx
theorem Vb.tup (a : Vbs w f l h ds) (hl : ds.length ≤ l) : Vb (w + 1) f l (h + 1) (.tup ds) := ⟨Va.tup a.a, by rw [lfD_tup, lfDs_le]; exact a.f, by rw [mlD_tup, Nat.max_le, mlDs_le]; exact ⟨hl, a.l⟩⟩
theorem Vb.lst (a : Vbs w f l h ds) (hl : ds.length ≤ l) : Vb (w + 1) f l (h + 1) (.lst ds) := ⟨Va.lst a.a, by rw [lfD_lst, lfDs_le]; exact a.f, by rw [mlD_lst, Nat.max_le, mlDs_le]; exact ⟨hl, a.l⟩⟩
theorem Vb.un (a : Vb w f l h (.tup ds)) : ∃ w' h', w = w' + 1 ∧ h = h' + 1 ∧ Vbs w' f l h' ds ∧ ds.length ≤ l := by
  obtain ⟨w', h', e1, e2, b⟩ := a.a.un
  have hf := a.f
  have hl := a.l
  rw [lfD_tup, lfDs_le] at hf
  rw [mlD_tup, Nat.max_le, mlDs_le] at hl
  exact ⟨w', h', e1, e2, ⟨b, hf, hl.2⟩, hl.1⟩
theorem Vb.non (hw : 1 ≤ w) : Vb w f l h .non := ⟨Va.non hw, by rw [lfD] <;> first | exact Nat.zero_le _ | exact nofun, by rw [mlD] <;> first | exact Nat.zero_le _ | exact nofun⟩
theorem Vb.bl {b : Bool} (hw : 1 ≤ w) : Vb w f l h (.bl b) := ⟨Va.bl hw, by rw [lfD] <;> first | exact Nat.zero_le _ | (intro _ h; cases h), by rw [mlD] <;> first | exact Nat.zero_le _ | (intro _ h; cases h)⟩
theorem Vb.dct (hw : 1 ≤ w) (hh : 1 ≤ h) : Vb w f l h (.dct []) := ⟨Va.dct hw hh, by rw [lfD] <;> first | exact Nat.zero_le _ | (intro _ h; cases h), by rw [mlD] <;> first | exact Nat.zero_le _ | (intro _ h; cases h)⟩
theorem Vb.int {i : Int} (hw : i.natAbs.log2 + 2 ≤ w) (hf : i.natAbs.log2 + 2 ≤ f) : Vb w f l h (.int i) := ⟨Va.int hw, by rw [lfD_int]; exact hf, by rw [mlD] <;> first | exact Nat.zero_le _ | (intro _ h; cases h)⟩
theorem Vb.str {z : Str} (hz : ∀ c ∈ z.cps.toList, c < 0x110000) (hw : z.length + 1 ≤ w) (hf : z.length + 1 ≤ f) : Vb w f l h (.str z) := ⟨Va.str hz hw, by rw [lfD_str]; exact hf, by rw [mlD] <;> first | exact Nat.zero_le _ | (intro _ h; cases h)⟩
theorem Vb.dec (e : (vD d && decide (wD d ≤ w) && decide (lfD d ≤ f) && decide (mlD d ≤ l) && decide (hD d ≤ h)) = true) : Vb w f l h d := by
  simp only [Bool.and_eq_true, decide_eq_true_eq] at e
  exact ⟨⟨e.1.1.1.1, e.1.1.1.2, e.2⟩, e.1.1.2, e.1.2⟩
theorem vbs_map {α : Type} {g : α → D} : ∀ {l1 : List α}, (∀ a ∈ l1, Vb w f l h (g a)) → Vbs (w * l1.length) f l h (l1.map g)
  | [], _ => Vbs.nil
  | a :: l1, H => by
    rw [List.length_cons, Nat.mul_succ, Nat.add_comm, List.map_cons]
    exact Vbs.cons (H a (List.mem_cons_self ..)) (vbs_map fun b hb => H b (List.mem_cons_of_mem _ hb))
end
/-! shown -/
mutual
theorem vb_py {W : Nat} (hW : W ≤ 1900) : ∀ d : D, vD d = true → lfD d ≤ W → ∃ p, toPy d = some p ∧ p.showable = true ∧ p.leavesShort W = true ∧ p.weight + 1 ≤ wD d ∧ p.depth ≤ hD d
  | .non, _, w => ⟨.none, rfl, rfl, rfl, by rw [wD] <;> first | exact Nat.le_refl _ | exact nofun, Nat.zero_le _⟩
  | .bl b, _, w => ⟨.bool b, rfl, rfl, rfl, by rw [wD_bl]; exact Nat.le_refl _, Nat.zero_le _⟩
  | .int i, _, w => by
    rw [lfD_int] at w
    refine ⟨.int i, rfl, ?_, ?_, ?_, Nat.zero_le _⟩
    · unfold PyData.showable; rw [decide_eq_true_eq]; omega
    · unfold PyData.leavesShort
      rw [decide_eq_true_eq]
      have e := int_text_length_le10 (a := i) (k := i.natAbs.log2 + 1) (by omega) (Nat.lt_of_lt_of_le (lt_pow_log2 _) (Nat.pow_le_pow_left (by decide) _))
      show (Str.ofString (toString i)).length ≤ W
      rw [PySem.ofString_length]
      omega
    · rw [wD_int]; unfold PyData.weight; split <;> omega
  | .str z, v, w => by
    rw [vD, List.all_eq_true] at v
    rw [lfD_str] at w
    refine ⟨.str z, rfl, rfl, ?_, by rw [wD_str]; exact Nat.le_refl _, Nat.zero_le _⟩
    unfold PyData.leavesShort
    rw [List.all_eq_true]
    intro c hc
    have := of_decide_eq_true (v c hc)
    rw [decide_eq_true_eq]
    have e : (16 : Nat) ^ 8 = 4294967296 := by decide
    omega
  | .tup xs, v, w => by
    rw [vD_tup] at v
    rw [lfD_tup] at w
    obtain ⟨ps, e, h1, h2, h3, h4⟩ := vbs_py hW xs v w
    refine ⟨.tuple ps, by unfold toPy; rw [e]; rfl, by unfold PyData.showable; exact h1, by unfold PyData.leavesShort; exact h2, by rw [wD_tup]; unfold PyData.weight; omega, by rw [hD_tup]; unfold PyData.depth; omega⟩
  | .lst xs, v, w => by
    rw [vD_lst] at v
    rw [lfD_lst] at w
    obtain ⟨ps, e, h1, h2, h3, h4⟩ := vbs_py hW xs v w
    refine ⟨.list ps, by unfold toPy; rw [e]; rfl, by unfold PyData.showable; exact h1, by unfold PyData.leavesShort; exact h2, by rw [wD_lst]; unfold PyData.weight; omega, by rw [hD_lst]; unfold PyData.depth; omega⟩
  | .dct [], _, w => ⟨.dict [], rfl, rfl, rfl, by rw [wD] <;> first | exact Nat.le_refl _ | exact nofun, by rw [hD]; exact Nat.le_refl _⟩
  | .dct (_ :: _), v, _ => by rw [vD] at v; cases v
  | .dcT _, v, _ => by rw [vD] at v <;> first | cases v | (intros; exact nofun)
  | .dcL _, v, _ => by rw [vD] at v <;> first | cases v | (intros; exact nofun)
  | .dcQ _, v, _ => by rw [vD] at v <;> first | cases v | (intros; exact nofun)
  | .dcX _, v, _ => by rw [vD] at v <;> first | cases v | (intros; exact nofun)
  | .ins _ _, v, _ => by rw [vD] at v <;> first | cases v | (intros; exact nofun)
  | .ty _, v, _ => by rw [vD] at v <;> first | cases v | (intros; exact nofun)
  | .deck, v, _ => by rw [vD] at v <;> first | cases v | (intros; exact nofun)
  | .slf, v, _ => by rw [vD] at v <;> first | cases v | (intros; exact nofun)
  | .scr _, v, _ => by rw [vD] at v <;> first | cases v | (intros; exact nofun)
  | .exc _ _, v, _ => by rw [vD] at v <;> first | cases v | (intros; exact nofun)
  | .cls _, v, _ => by rw [vD] at v <;> first | cases v | (intros; exact nofun)
theorem vbs_py {W : Nat} (hW : W ≤ 1900) : ∀ ds : List D, vDs ds = true → lfDs ds ≤ W → ∃ ps, toPys ds = some ps ∧ PyData.showableAll ps = true ∧ PyData.leavesShortAll W ps = true ∧ PyData.weightAll ps ≤ wDs ds ∧ PyData.depthAll ps ≤ hDs ds
  | [], _, _ => ⟨[], rfl, rfl, rfl, Nat.zero_le _, Nat.zero_le _⟩
  | d :: ds, v, w => by
    rw [vDs_cons, Bool.and_eq_true] at v
    rw [lfDs_cons, Nat.max_le] at w
    obtain ⟨p, e, h1, h2, h3, h4⟩ := vb_py hW d v.1 w.1
    obtain ⟨ps, e', g1, g2, g3, g4⟩ := vbs_py hW ds v.2 w.2
    refine ⟨p :: ps, by unfold toPys; rw [e, e'], by unfold PyData.showableAll; rw [h1, g1]; rfl, by unfold PyData.leavesShortAll; rw [h2, g2]; rfl, by rw [wDs_cons]; unfold PyData.weightAll; omega, by rw [hDs_cons]; unfold PyData.depthAll; omega⟩
end
theorem Vb.repr {w f l h : Nat} {d : D} (a : Vb w f l h d) (hf : 8 ≤ f ∧ f ≤ 1900) (hm : (f + 2) * w ≤ 16000000) (hh : h ≤ 60) : one reprAD [d] = some (.str (shownD d)) := by
  obtain ⟨p, e, h1, h2, h3, h4⟩ := vb_py (W := f) hf.2 d a.v a.f
  show reprAD d = _
  unfold reprAD shownD
  rw [e]
  refine chk_pos ?_
  have l := PyData.shown_le f hf.1 p h2
  have hwd := a.a.w
  have hhd := a.a.h
  have m : (f + 2) * p.weight ≤ (f + 2) * w := Nat.mul_le_mul_left _ (by omega)
  unfold reprPA
  rw [h1]
  simp only [Bool.true_and, Bool.and_eq_true, decide_eq_true_eq]
  rw [sizeLine_eq]
  omega
end G
namespace K00
open PySem PySem.Spec PyProof.Rows L2 G
abbrev Ok (b : Nat) (k : Sk) : Prop := OkD false false b k
theorem draw_ok : DrawOk false false fn__law_draw := drawA_ok (c1 := 60221) (c2 := 211) (c3 := 69621) (c4 := 29) (by decide) (by decide) (by decide)
/-! ### a drawn value -/
abbrev Vg (d : D) : Prop := Vb 300 200 8 3 d
def base : List D := [.non, .bl true, .int 0, .int 1, .int (-1), .int 1000000000000000000000000000000000000000, .str "", .str "ends", .str "tally 01", .str "01", .tup [], .tup [.int 0, .str "1"], .lst [.int 1], .dct [], .tup [.str "ever", .str "", .str "1", .str ""]]
theorem base_v : ∀ d ∈ base, Vg d := fun d hd => by
  have h : (base.all fun d => (vD d && decide (wD d ≤ 300) && decide (lfD d ≤ 200) && decide (mlD d ≤ 8) && decide (hD d ≤ 3))) = true := by decide +kernel
  exact Vb.dec (List.all_eq_true.mp h d hd)
theorem v0 (k : Sk) : d__law_value_0 [.val .deck, .emp] k = .nx [.val .deck, .val (.lst base)] k := by kernel_rfl
theorem str_small {x : Int} (h0 : 0 ≤ x) (h1 : x < 1000) : one strD [.int x] = some (.str (iS x)) :=
  chk_pos (decide_eq_true (Nat.lt_of_le_of_lt (ML.log2_lt (b := 140) (show x.natAbs < 2 ^ 140 from Nat.lt_trans (show x.natAbs < 1000 by omega) (by decide))) (by decide)))
theorem iS_v {x : Int} (h0 : 0 ≤ x) (h1 : x < 1000) : Vg (.str (iS x)) := by
  have l : (iS x).length ≤ 5 := iS_len (k := 4) (by decide) (show x.natAbs < 10 ^ 4 by omega)
  refine Vb.str (fun c hc => ?_) (by omega) (by omega)
  rcases iS_sign x c hc with h | h <;> omega
theorem int_v {x : Int} (h0 : 0 ≤ x) (h1 : x < 1000) : Vb 100 200 8 3 (.int x) := by
  have h2 : x.natAbs.log2 ≤ 11 := by
    have : x.natAbs < 2 ^ 11 := by omega
    exact ML.log2_lt (b := 11) this
  exact Vb.int (by omega) (by omega)
theorem rank_v {x : Int} (h0 : 0 ≤ x) (h1 : x < 1000) : Vg (.tup [.str "rank", .int x]) := by
  have a : Vb 20 200 8 2 (.str "rank") := Vb.dec (by decide +kernel)
  have b : Vb 100 200 8 2 (.int x) := by
    have h2 : x.natAbs.log2 ≤ 11 := by
      have : x.natAbs < 2 ^ 11 := by omega
      exact ML.log2_lt (b := 11) this
    exact Vb.int (by omega) (by omega)
  exact (Vb.tup (Vbs.cons a (Vbs.one b)) (show 2 ≤ 8 by decide)).mono (by decide) (Nat.le_refl _) (Nat.le_refl _) (Nat.le_refl _)
theorem value_ok {b : Nat} {k : Sk} (ok : Ok (b + 4) k) : ∃ v k', fn__law_value [.deck] k = .ok v k' ∧ Vg v ∧ Ok b k' := by
  obtain ⟨x, k1, e1, x0, x1, ok1⟩ := draw_ok 1000 (b + 3) k (by decide) (by decide) ok
  obtain ⟨y, k2, e2, y0, y1, ok2⟩ := draw_ok 1000 (b + 2) k1 (by decide) (by decide) ok1
  obtain ⟨z, k3, e3, z0, z1, ok3⟩ := draw_ok 9 (b + 1) k2 (by decide) (by decide) ok2
  obtain ⟨v, k', h1, h2, h3⟩ := pick_lst draw_ok (base ++ [.str (iS x), .int y, .tup [.str "rank", .int z]]) (fun d => d) (by simp) (Nat.le_of_ble_eq_true rfl) ok3
  rw [List.map_id'] at h1
  refine ⟨v, k', ?_, ?_, h3⟩
  · unfold fn__law_value d__law_value
    refine ev_fn (es_ss (v0 k) ?_)
    unfold d__law_value_1
    refine es_ret (ev_call (ev_cons ev_var (ev_cons (ev_op (x := .lst base) (y := .lst [.str (iS x), .int y, .tup [.str "rank", .int z]]) ev_var (ev_lst (ev_cons (ev_callB (ev_cons (ev_call (ev_cons ev_var (ev_cons ev_ep ev_nil)) e1) ev_nil) (str_small x0 x1)) (ev_cons (ev_call (ev_cons ev_var (ev_cons ev_ep ev_nil)) e2) (ev_cons (ev_tup (ev_cons ev_ep (ev_cons (ev_call (ev_cons ev_var (ev_cons ev_ep ev_nil)) e3) ev_nil))) ev_nil)))) ?_) ev_nil)) h1)
    rfl
  · rcases List.mem_append.mp h2 with h | h
    · exact base_v v h
    · simp only [List.mem_cons, List.not_mem_nil, or_false] at h
      rcases h with rfl | rfl | rfl
      · exact iS_v x0 x1
      · exact (int_v y0 y1).mono (by decide) (Nat.le_refl _) (Nat.le_refl _) (Nat.le_refl _)
      · exact rank_v z0 (by omega)
/-! ### shown alike -/
theorem list_repr {xs : List D} (hx : ∀ x ∈ xs, Vg x) (hl : xs.length ≤ 8) : ∃ s, one reprAD [.lst xs] = some (.str s) := by
  have v := vbs_map (g := fun d : D => d) hx
  rw [List.map_id'] at v
  refine ⟨_, Vb.repr (w := 300 * xs.length + 1) (f := 200) (l := 8) (h := 4) (Vb.lst v hl) (by decide) ?_ (by decide)⟩
  have : 300 * xs.length ≤ 2400 := by omega
  omega
theorem ne_same {z : Str} : eqD true (.str z) (.str z) = some (.bl false) := eqD_same_str
/-- `if repr(x) != repr(y): return False`, both alike -/
theorem es_alike {ta tb : ME D} {x : List D} {s : List Sl} {k : Sk} (hx : ∀ d ∈ x, Vg d) (hl : x.length ≤ 8) (ha : ta s k = .ok (.lst x) k) (hb : tb s k = .ok (.lst x) k) :
    sIf (dB (dOp (eqD true) (dCallB (one reprAD) (dCons ta dNil)) (dCallB (one reprAD) (dCons tb dNil)))) (sRet (ep (.bl false))) sNx s k = .nx s k := by
  obtain ⟨z, hz⟩ := list_repr hx hl
  exact es_ifF (ev_B (ev_op (ev_callB (ev_cons ha ev_nil) hz) (ev_callB (ev_cons hb ev_nil) hz) ne_same)) rfl
/-! ### the kinds of an error -/
def cks : List Str := ["BadTally", "BadText", "BadTicket", "OtherDigits", "OtherTally", "BadRewriter", "OtherRoll", "DoesDouble", "Unbounded", "BadTold", "CannotBe", "BadDigit", "BadName", "NameTaken", "NoName", "BadPromise", "Unkept", "NoPromise", "Needed", "NothingToUndo", "NothingToRedo", "BadDeed", "NoStretch", "SoldBefore", "NotSold", "InvalidCommand"]
def kindsL (c : Str) : List D := cks.map fun a => D.bl (c == a)
theorem ckinds {P : Str → Prop} (h : P "BadTally" ∧ P "BadText" ∧ P "BadTicket" ∧ P "OtherDigits" ∧ P "OtherTally" ∧ P "BadRewriter" ∧ P "OtherRoll" ∧ P "DoesDouble" ∧ P "Unbounded" ∧ P "BadTold" ∧ P "CannotBe" ∧ P "BadDigit" ∧ P "BadName" ∧ P "NameTaken" ∧ P "NoName" ∧ P "BadPromise" ∧ P "Unkept" ∧ P "NoPromise" ∧ P "Needed" ∧ P "NothingToUndo" ∧ P "NothingToRedo" ∧ P "BadDeed" ∧ P "NoStretch" ∧ P "SoldBefore" ∧ P "NotSold" ∧ P "InvalidCommand") : ∀ c ∈ cks, P c := by
  obtain ⟨h1, h2, h3, h4, h5, h6, h7, h8, h9, h10, h11, h12, h13, h14, h15, h16, h17, h18, h19, h20, h21, h22, h23, h24, h25, h26⟩ := h
  intro c hc
  unfold cks at hc
  simp only [List.mem_cons, List.not_mem_nil, or_false] at hc
  rcases hc with rfl | rfl | rfl | rfl | rfl | rfl | rfl | rfl | rfl | rfl | rfl | rfl | rfl | rfl | rfl | rfl | rfl | rfl | rfl | rfl | rfl | rfl | rfl | rfl | rfl | rfl <;> assumption
theorem kinds_ok (fs : List (Str × D)) (k : Sk) : ∀ c ∈ cks, fn__law_kinds [.exc c fs] k = .ok (.lst (kindsL c)) k :=
  ckinds (P := fun c => fn__law_kinds [.exc c fs] k = .ok (.lst (kindsL c)) k) ⟨by kernel_rfl, by kernel_rfl, by kernel_rfl, by kernel_rfl, by kernel_rfl, by kernel_rfl, by kernel_rfl, by kernel_rfl, by kernel_rfl, by kernel_rfl, by kernel_rfl, by kernel_rfl, by kernel_rfl, by kernel_rfl, by kernel_rfl, by kernel_rfl, by kernel_rfl, by kernel_rfl, by kernel_rfl, by kernel_rfl, by kernel_rfl, by kernel_rfl, by kernel_rfl, by kernel_rfl, by kernel_rfl, by kernel_rfl⟩
theorem count_ok : ∀ c ∈ cks, cntBD (.lst (kindsL c)) [.bl true] = some (.int 1) :=
  ckinds (P := fun c => cntBD (.lst (kindsL c)) [.bl true] = some (.int 1)) ⟨by kernel_rfl, by kernel_rfl, by kernel_rfl, by kernel_rfl, by kernel_rfl, by kernel_rfl, by kernel_rfl, by kernel_rfl, by kernel_rfl, by kernel_rfl, by kernel_rfl, by kernel_rfl, by kernel_rfl, by kernel_rfl, by kernel_rfl, by kernel_rfl, by kernel_rfl, by kernel_rfl, by kernel_rfl, by kernel_rfl, by kernel_rfl, by kernel_rfl, by kernel_rfl, by kernel_rfl, by kernel_rfl, by kernel_rfl⟩
theorem err_ok (fs : List (Str × D)) : ∀ c ∈ cks, isiN xt_TallyError (.exc c fs) = some (.bl true) :=
  ckinds (P := fun c => isiN xt_TallyError (.exc c fs) = some (.bl true)) ⟨by kernel_rfl, by kernel_rfl, by kernel_rfl, by kernel_rfl, by kernel_rfl, by kernel_rfl, by kernel_rfl, by kernel_rfl, by kernel_rfl, by kernel_rfl, by kernel_rfl, by kernel_rfl, by kernel_rfl, by kernel_rfl, by kernel_rfl, by kernel_rfl, by kernel_rfl, by kernel_rfl, by kernel_rfl, by kernel_rfl, by kernel_rfl, by kernel_rfl, by kernel_rfl, by kernel_rfl, by kernel_rfl, by kernel_rfl⟩
end K00
namespace K00
open PySem PySem.Spec PyProof.Rows L2 G
/-- a comprehension that draws, its items told -/
theorem dLc_drX {α : Type} {s : List Sl} {k k1 : Sk} {b : Nat} (l : List α) (f : α → D) (s1 : α → List Sl) (e : α → D) (c : Nat) {ti : ME (List D)} {g : MG} {te : ME D} {vs : List Nat} (hti : ti s k = .ok (l.map f) k1) (hn : l.length ≤ sizeLine)
    (hg : ∀ a ∈ l, g (f a) (wipeS s vs) = some (s1 a)) (he : ∀ a ∈ l, ∀ b k, Ok (b + c) k → ∃ k', te (s1 a) k = .ok (e a) k' ∧ Ok b k') (ok : Ok (b + c * l.length) k1) :
    ∃ k' : Sk, dLc ti g (ep true) te vs s k = .ok (.lst (l.map e)) k' ∧ Ok b k' := by
  have key : ∀ (l : List α) (n : Nat) (k1 : Sk), n + l.length ≤ sizeLine → (∀ a ∈ l, g (f a) (wipeS s vs) = some (s1 a)) → (∀ a ∈ l, ∀ b k, Ok (b + c) k → ∃ k', te (s1 a) k = .ok (e a) k' ∧ Ok b k') → Ok (b + c * l.length) k1 →
      ∃ k' : Sk, lcL g (ep true) te (wipeS s vs) n (l.map f) k1 = .ok (l.map e) k' ∧ Ok b k' := by
    intro l
    induction l with
    | nil => intro n k1 _ _ _ ok; exact ⟨k1, rfl, ok.mono (Nat.le_add_right _ _)⟩
    | cons a l ih =>
      intro n k1 hn hg he ok
      rw [List.length_cons] at hn ok
      have ok' : Ok (b + c * l.length + c) k1 := ok.mono (by rw [Nat.mul_succ]; omega)
      obtain ⟨k2, h1, h3⟩ := he a (List.mem_cons_self ..) _ _ ok'
      obtain ⟨k', e1, e4⟩ := ih (n + 1) k2 (by omega) (fun b h => hg b (List.mem_cons_of_mem _ h)) (fun b h => he b (List.mem_cons_of_mem _ h)) h3
      refine ⟨k', ?_, e4⟩
      rw [List.map_cons]
      unfold lcL
      rw [hg a (List.mem_cons_self ..)]
      dsimp only [ep]
      rw [h1]
      dsimp only
      rw [if_pos (by omega), e1]
      rfl
  obtain ⟨k', e1, e2⟩ := key l 0 k1 (by omega) hg he ok
  refine ⟨k', ?_, e2⟩
  rw [a_lc, hti, bE_ok, e1]; rfl
/-! ### made errors -/
def cpL : Nat → List (Str × Str)
  | 0 => [("BadTally", "part"), ("BadText", "line")]
  | 1 => [("BadTicket", "ticket"), ("BadRewriter", "part")]
  | 2 => [("DoesDouble", "paper"), ("Unbounded", "paper")]
  | 3 => [("BadTold", "number"), ("CannotBe", "paper")]
  | 4 => [("BadDigit", "digit"), ("BadName", "name")]
  | 5 => [("NameTaken", "name"), ("NoName", "name")]
  | 6 => [("BadPromise", "promise"), ("NoPromise", "promise")]
  | 7 => [("BadDeed", "number"), ("SoldBefore", "ticket")]
  | _ => [("NotSold", "ticket")]
def near (a : D) (q : Str × Str) : D := .exc q.1 [(q.2, a)]
def trip (a b : D) (q : Str × Str) : D := .tup [near a q, near b q, .str q.2]
theorem made_ok (a b : D) (k : Sk) : ∀ i, i < 9 → fn__law_made [dN i, a, b] k = .ok (.lst ((cpL i).map (trip a b))) k
  | 0, _ => by kernel_rfl
  | 1, _ => by kernel_rfl
  | 2, _ => by kernel_rfl
  | 3, _ => by kernel_rfl
  | 4, _ => by kernel_rfl
  | 5, _ => by kernel_rfl
  | 6, _ => by kernel_rfl
  | 7, _ => by kernel_rfl
  | 8, _ => by kernel_rfl
  | n + 9, h => absurd h (by omega)
def Gq (q : Str × Str) : Prop := q.1 ∈ cks ∧ ∀ (a : D) (k : Sk), fn__law_borne [near a q, .str q.2] k = .ok a k
theorem gq_of {c p : Str} (h : c ∈ cks) (e : ∀ (a : D) (k : Sk), fn__law_borne [.exc c [(p, a)], .str p] k = .ok a k) : Gq (c, p) := ⟨h, e⟩
theorem gq_all : ∀ i, ∀ q ∈ cpL i, Gq q := by
  have m : ∀ c : Str, (cks.contains c) = true → c ∈ cks := fun c h => List.contains_iff_mem.mp h
  have two : ∀ {x y : Str × Str}, Gq x → Gq y → ∀ q ∈ [x, y], Gq q := fun hx hy q hq => by
    simp only [List.mem_cons, List.not_mem_nil, or_false] at hq
    rcases hq with rfl | rfl <;> assumption
  intro i
  match i with
  | 0 => exact two (gq_of (m _ (by decide +kernel)) fun _ _ => by kernel_rfl) (gq_of (m _ (by decide +kernel)) fun _ _ => by kernel_rfl)
  | 1 => exact two (gq_of (m _ (by decide +kernel)) fun _ _ => by kernel_rfl) (gq_of (m _ (by decide +kernel)) fun _ _ => by kernel_rfl)
  | 2 => exact two (gq_of (m _ (by decide +kernel)) fun _ _ => by kernel_rfl) (gq_of (m _ (by decide +kernel)) fun _ _ => by kernel_rfl)
  | 3 => exact two (gq_of (m _ (by decide +kernel)) fun _ _ => by kernel_rfl) (gq_of (m _ (by decide +kernel)) fun _ _ => by kernel_rfl)
  | 4 => exact two (gq_of (m _ (by decide +kernel)) fun _ _ => by kernel_rfl) (gq_of (m _ (by decide +kernel)) fun _ _ => by kernel_rfl)
  | 5 => exact two (gq_of (m _ (by decide +kernel)) fun _ _ => by kernel_rfl) (gq_of (m _ (by decide +kernel)) fun _ _ => by kernel_rfl)
  | 6 => exact two (gq_of (m _ (by decide +kernel)) fun _ _ => by kernel_rfl) (gq_of (m _ (by decide +kernel)) fun _ _ => by kernel_rfl)
  | 7 => exact two (gq_of (m _ (by decide +kernel)) fun _ _ => by kernel_rfl) (gq_of (m _ (by decide +kernel)) fun _ _ => by kernel_rfl)
  | n + 8 =>
    intro q hq
    have : q ∈ [(("NotSold" : Str), ("ticket" : Str))] := hq
    rw [List.mem_singleton.mp this]
    exact gq_of (m _ (by decide +kernel)) fun _ _ => by kernel_rfl
theorem cpL_len : ∀ i, (cpL i).length ≤ 2
  | 0 => by decide
  | 1 => by decide
  | 2 => by decide
  | 3 => by decide
  | 4 => by decide
  | 5 => by decide
  | 6 => by decide
  | 7 => by decide
  | n + 8 => by show 1 ≤ 2; decide
/-- an error of the package -/
def Er (d : D) : Prop := ∃ c ∈ cks, ∃ fs, d = .exc c fs
def sT (ns : List Int) (L : List D) (a3 a6 a7 a8 a9 a10 : Sl) : List Sl := [.val (.scr ns), .val .deck, .own (.lst L), a3, .emp, .emp, a6, a7, a8, a9, a10, .emp, .emp]
theorem kinds_eq : ∀ c ∈ cks, eqD true (.lst (kindsL c)) (.lst (kindsL c)) = some (.bl false) :=
  ckinds (P := fun c => eqD true (.lst (kindsL c)) (.lst (kindsL c)) = some (.bl false)) ⟨by kernel_rfl, by kernel_rfl, by kernel_rfl, by kernel_rfl, by kernel_rfl, by kernel_rfl, by kernel_rfl, by kernel_rfl, by kernel_rfl, by kernel_rfl, by kernel_rfl, by kernel_rfl, by kernel_rfl, by kernel_rfl, by kernel_rfl, by kernel_rfl, by kernel_rfl, by kernel_rfl, by kernel_rfl, by kernel_rfl, by kernel_rfl, by kernel_rfl, by kernel_rfl, by kernel_rfl, by kernel_rfl, by kernel_rfl⟩
def inner : MS := (ss (sIf (dB (dOp (eqD true) (dCallB (one reprAD) (dCons (dLst (dCons (dCall fn__law_borne (dCons (dVar 8) (dCons (dVar 10) dNil))) (dCons (dCall fn__law_borne (dCons (dVar 9) (dCons (dVar 10) dNil))) dNil))) dNil)) (dCallB (one reprAD) (dCons (dLst (dCons (dVar 6) (dCons (dVar 7) dNil))) dNil)))) (sRet (ep (.bl false))) sNx)
    (ss (sIf (dB (dOp (eqD true) (dCall fn__law_kinds (dCons (dVar 8) dNil)) (dCall fn__law_kinds (dCons (dVar 9) dNil)))) (sRet (ep (.bl false))) sNx)
    (sGrow appF 2 (dVar 8))))
theorem b_eq : d_law_1_b = (ss (sPar 6 7 (dCons (dCall fn__law_value (dCons (dVar 1) dNil)) (dCons (dCall fn__law_value (dCons (dVar 1) dNil)) dNil)))
    (sFor (dItems (dCall fn__law_made (dCons (dVar 3) (dCons (dVar 6) (dCons (dVar 7) dNil))))) (mTup 3 (mCons (mName 8) (mCons (mName 9) (mCons (mName 10) mNil)))) inner)) := rfl
theorem inner_ok {ns : List Int} {L : List D} {a3 : Sl} {a b : D} {q : Str × Str} {k : Sk} (hq : Gq q) (ha : Vg a) (hb : Vg b) (hl : L.length < 1000) :
    inner (sT ns L a3 (.val a) (.val b) (.val (near a q)) (.val (near b q)) (.val (.str q.2))) k = .nx (sT ns (L ++ [near a q]) a3 (.val a) (.val b) (.val (near a q)) (.val (near b q)) (.val (.str q.2))) k := by
  unfold inner
  refine es_ss (es_alike (x := [a, b]) (fun d hd => ?_) (by show 2 ≤ 8; decide) (ev_lst (ev_cons (ev_call (ev_cons ev_var (ev_cons ev_var ev_nil)) (hq.2 a k)) (ev_cons (ev_call (ev_cons ev_var (ev_cons ev_var ev_nil)) (hq.2 b k)) ev_nil)) (by show 2 ≤ _; decide)) (ev_lst (ev_cons ev_var (ev_cons ev_var ev_nil)) (by show 2 ≤ _; decide))) ?_
  · simp only [List.mem_cons, List.not_mem_nil, or_false] at hd
    rcases hd with rfl | rfl <;> assumption
  refine es_ss (es_ifF (ev_B (ev_op (ev_call (ev_cons (ev_var (d := near a q)) ev_nil) (kinds_ok _ k q.1 hq.1)) (ev_call (ev_cons (ev_var (d := near b q)) ev_nil) (kinds_ok _ k q.1 hq.1)) (kinds_eq q.1 hq.1))) rfl) ?_
  exact es_app' (xs := L) (d := near a q) rfl ev_var (Nat.lt_of_lt_of_le hl (by rw [sizeLine_eq]; decide))
theorem turn_ok {ns : List Int} {L : List D} {i : Nat} {a6 a7 a8 a9 a10 : Sl} {b : Nat} {k : Sk} (hi : i < 9) (hL : ∀ d ∈ L, Er d) (hl : L.length ≤ 900) (ok : Ok (b + 8) k) :
    ∃ L' k' c6 c7 c8 c9 c10, d_law_1_b (sT ns L (.val (dN i)) a6 a7 a8 a9 a10) k = .nx (sT ns L' (.val (dN i)) c6 c7 c8 c9 c10) k' ∧ (∀ d ∈ L', Er d) ∧ L'.length ≤ L.length + 2 ∧ Ok b k' := by
  obtain ⟨x, k1, e1, v1, ok1⟩ := value_ok (b := b + 4) ok
  obtain ⟨y, k2, e2, v2, ok2⟩ := value_ok (b := b) ok1
  obtain ⟨s', e3, c8, c9, c10, rfl⟩ := loop_pu (g := mTup 3 (mCons (mName 8) (mCons (mName 9) (mCons (mName 10) mNil)))) (body := inner) (f := trip x y) (k := k2) (fun pre s => ∃ c8 c9 c10, s = sT ns (L ++ pre.map (near x)) (.val (dN i)) (.val x) (.val y) c8 c9 c10) (cpL i) (s := sT ns L (.val (dN i)) (.val x) (.val y) a8 a9 a10) (fun pre q post s hm ⟨c8, c9, c10, hs⟩ => by
      subst hs
      have hq := gq_all i q (by rw [hm]; exact List.mem_append_right _ (List.mem_cons_self ..))
      have hp : pre.length ≤ 2 := by
        have := cpL_len i
        rw [hm, List.length_append] at this; omega
      refine ⟨_, _, rfl, inner_ok hq v1 v2 (by rw [List.length_append, List.length_map]; omega), .val (near x q), .val (near y q), .val (.str q.2), ?_⟩
      rw [List.map_append, List.append_assoc]; rfl) ⟨_, _, _, by rw [List.map_nil, List.append_nil]⟩
  refine ⟨L ++ (cpL i).map (near x), k2, .val x, .val y, c8, c9, c10, ?_, fun d hd => ?_, ?_, ok2⟩
  · rw [b_eq]
    refine es_ss (es_par (ev_cons (ev_call (ev_cons ev_var ev_nil) e1) (ev_cons (ev_call (ev_cons ev_var ev_nil) e2) ev_nil))) ?_
    exact es_for (ev_items (ev_call (ev_cons ev_var (ev_cons ev_var (ev_cons ev_var ev_nil))) (made_ok x y k2 i hi)) rfl) e3
  · rcases List.mem_append.mp hd with h | h
    · exact hL d h
    · obtain ⟨q, hq, rfl⟩ := List.mem_map.mp h
      exact ⟨q.1, (gq_all i q hq).1, _, rfl⟩
  · rw [List.length_append, List.length_map]
    have := cpL_len i
    omega
/-! ### caught -/
def rz : Nat → Str
  | 0 => "BadTally"
  | 1 => "BadText"
  | 2 => "BadTicket"
  | 3 => "OtherDigits"
  | 4 => "DoesDouble"
  | 5 => "CannotBe"
  | 6 => "Unkept"
  | 7 => "NothingToUndo"
  | 8 => "NoStretch"
  | _ => "InvalidCommand"
theorem caught_ok (v : D) (k : Sk) : ∀ i, i < 10 → fn__law_caught [dN i, v] k = .ok (.lst (kindsL (rz i))) k
  | 0, _ => by kernel_rfl
  | 1, _ => by kernel_rfl
  | 2, _ => by kernel_rfl
  | 3, _ => by kernel_rfl
  | 4, _ => by kernel_rfl
  | 5, _ => by kernel_rfl
  | 6, _ => by kernel_rfl
  | 7, _ => by kernel_rfl
  | 8, _ => by kernel_rfl
  | 9, _ => by kernel_rfl
  | n + 10, h => absurd h (by omega)
def told : List D := (List.range 10).map fun i => .lst (kindsL (rz i))
def plcs : List D := [.int 0, .int 1, .int 2, .int 3, .int 7, .int 10, .int 16, .int 19, .int 22, .int 25]
/-! ### several parameters -/
def sW (a1 a2 a3 a4 a5 a6 a7 a8 : Sl) : List Sl := [.val .deck, a1, a2, a3, a4, a5, a6, a7, a8]
theorem wide_ok {b : Nat} {k : Sk} (ok : Ok (b + 12) k) : ∃ k', fn__law_wide_right [.deck] k = .ok (.bl true) k' ∧ Ok b k' := by
  obtain ⟨x, k1, e1, v1, ok1⟩ := value_ok (b := b + 8) ok
  obtain ⟨y, k2, e2, v2, ok2⟩ := value_ok (b := b + 4) ok1
  obtain ⟨z, k3, e3, v3, ok3⟩ := value_ok (b := b) ok2
  refine ⟨k3, ?_, ok3⟩
  have a4 : ∀ {p q r t : D}, Vg p → Vg q → Vg r → Vg t → ∀ d ∈ [p, q, r, t], Vg d := fun hp hq hr ht d hd => by
    simp only [List.mem_cons, List.not_mem_nil, or_false] at hd
    rcases hd with rfl | rfl | rfl | rfl <;> assumption
  have a6 : ∀ d ∈ [x, y, z, x, y, z], Vg d := fun d hd => by
    simp only [List.mem_cons, List.not_mem_nil, or_false] at hd
    rcases hd with rfl | rfl | rfl | rfl | rfl | rfl <;> assumption
  unfold fn__law_wide_right d__law_wide_right
  refine ev_fn (es_ss (k1 := k3) (s1 := sW .emp (.val x) (.val y) (.val z) .emp .emp .emp .emp) (es_par3 (ev_cons (ev_call (ev_cons ev_var ev_nil) e1) (ev_cons (ev_call (ev_cons ev_var ev_nil) e2) (ev_cons (ev_call (ev_cons ev_var ev_nil) e3) ev_nil)))) ?_)
  refine es_ss (k1 := k3) (s1 := sW .emp (.val x) (.val y) (.val z) (.val (.exc "Unkept" [("fault", z), ("promise", y), ("name", x)])) (.val (.exc "Unkept" [("promise", z), ("name", y), ("fault", x)])) .emp .emp) (by kernel_rfl) ?_
  refine es_ss (k1 := k3) (s1 := sW .emp (.val x) (.val y) (.val z) (.val (.exc "Unkept" [("fault", z), ("promise", y), ("name", x)])) (.val (.exc "Unkept" [("promise", z), ("name", y), ("fault", x)])) .emp .emp) (es_alike (x := [x, y, z, x, y, z]) a6 (by show 6 ≤ 8; decide) (by kernel_rfl) (by kernel_rfl)) ?_
  refine es_ss (k1 := k3) (s1 := sW .emp (.val x) (.val y) (.val z) (.val (.exc "Needed" [("other", y), ("name", x)])) (.val (.exc "Needed" [("name", z), ("other", x)])) .emp .emp) (by kernel_rfl) ?_
  refine es_ss (k1 := k3) (s1 := sW .emp (.val x) (.val y) (.val z) (.val (.exc "Needed" [("other", y), ("name", x)])) (.val (.exc "Needed" [("name", z), ("other", x)])) .emp .emp) (es_alike (x := [x, y, x, z]) (a4 v1 v2 v1 v3) (by show 4 ≤ 8; decide) (by kernel_rfl) (by kernel_rfl)) ?_
  refine es_ss (k1 := k3) (s1 := sW .emp (.val x) (.val y) (.val z) (.val (.exc "NoStretch" [("high", y), ("low", x)])) (.val (.exc "NoStretch" [("low", z), ("high", x)])) .emp .emp) (by kernel_rfl) ?_
  refine es_ss (k1 := k3) (s1 := sW .emp (.val x) (.val y) (.val z) (.val (.exc "NoStretch" [("high", y), ("low", x)])) (.val (.exc "NoStretch" [("low", z), ("high", x)])) .emp .emp) (es_alike (x := [x, y, x, z]) (a4 v1 v2 v1 v3) (by show 4 ≤ 8; decide) (by kernel_rfl) (by kernel_rfl)) ?_
  refine es_ss (k1 := k3) (s1 := sW (.val (.lst [.lst (kindsL "Unkept"), .lst (kindsL "Needed"), .lst (kindsL "NoStretch")])) (.val x) (.val y) (.val z) (.val (.exc "NoStretch" [("high", y), ("low", x)])) (.val (.exc "NoStretch" [("low", z), ("high", x)])) .emp .emp) (by kernel_rfl) ?_
  kernel_rfl
/-! ### the law -/
theorem none_left {t : D → Bool} : ∀ {L : List D}, (∀ d ∈ L, t d = false) → (L.filter t).map (fun d => d) = []
  | [], _ => rfl
  | d :: L, h => by
    rw [List.filter_cons, h d (List.mem_cons_self ..)]
    exact none_left fun x hx => h x (List.mem_cons_of_mem _ hx)
def bareL : List D := [.exc "OtherDigits" [], .exc "OtherTally" [], .exc "OtherRoll" [], .exc "NothingToUndo" [], .exc "NothingToRedo" [], .exc "InvalidCommand" []]
theorem bare_er : ∀ d ∈ bareL, Er d := fun d hd => by
  have m : ∀ c : Str, (cks.contains c) = true → c ∈ cks := fun c h => List.contains_iff_mem.mp h
  unfold bareL at hd
  simp only [List.mem_cons, List.not_mem_nil, or_false] at hd
  rcases hd with rfl | rfl | rfl | rfl | rfl | rfl <;> exact ⟨_, m _ (by decide +kernel), _, rfl⟩
def sV (ns : List Int) (L : List D) (a3 a4 a5 a6 a7 a8 a9 a10 : Sl) : List Sl := [.val (.scr ns), .val .deck, .val (.lst L), a3, a4, a5, a6, a7, a8, a9, a10, .emp, .emp]
theorem law2_ok {ns : List Int} {L : List D} {a3 a6 a7 a8 a9 a10 : Sl} {k : Sk} (hL : ∀ d ∈ L, Er d) (hl : L.length ≤ 900) : d_law_2 (sV ns L a3 .emp .emp a6 a7 a8 a9 a10) k = .nx (sV ns L a3 .emp .emp a6 a7 a8 a9 a10) k := by
  have e := dLc_F (s := sV ns L a3 .emp .emp a6 a7 a8 a9 a10) (k := k) (ti := dItems (dVar 2)) (g := mName 12) (tt := dOr (dNot (dB (dUn (isiN xt_TallyError) (dVar 12)))) (dNot (dB (dUn (isiN xt_TallyError) (dVar 12))))) (te := dVar 12) (vs := [12]) (ds := L) (fun _ => false) (fun d => d)
    (fun d => [.val (.scr ns), .val .deck, .val (.lst L), a3, .emp, .emp, a6, a7, a8, a9, a10, .emp, .val d]) (ev_items (x := .lst L) ev_var rfl) (by rw [sizeLine_eq]; omega) (fun _ _ => rfl) (fun d hd => by
      obtain ⟨c, hc, fs, rfl⟩ := hL d hd
      have q : dNot (dB (dUn (isiN xt_TallyError) (dVar 12))) [.val (.scr ns), .val .deck, .val (.lst L), a3, .emp, .emp, a6, a7, a8, a9, a10, .emp, .val (.exc c fs)] k = .ok false k := ev_not (v := true) (ev_B (ev_un ev_var (err_ok fs c hc)))
      exact ev_borF q q) (fun _ _ h => absurd h Bool.false_ne_true)
  rw [none_left fun _ _ => rfl] at e
  unfold d_law_2
  exact es_ifF (ev_B (ev_op e (ev_lst ev_nil) rfl)) rfl
theorem law3_ok {ns : List Int} {L : List D} {a3 a6 a7 a8 a9 a10 : Sl} {k : Sk} (hL : ∀ d ∈ L, Er d) (hl : L.length ≤ 900) : d_law_3 (sV ns L a3 .emp .emp a6 a7 a8 a9 a10) k = .nx (sV ns L a3 .emp .emp a6 a7 a8 a9 a10) k := by
  have e := dLc_F (s := sV ns L a3 .emp .emp a6 a7 a8 a9 a10) (k := k) (ti := dItems (dVar 2)) (g := mName 12) (tt := dB (dOp (eqD true) (dMethT "list" cntBD (dCall fn__law_kinds (dCons (dVar 12) dNil)) (dCons (ep (.bl true)) dNil)) (ep (.int 1)))) (te := dVar 12) (vs := [12]) (ds := L) (fun _ => false) (fun d => d)
    (fun d => [.val (.scr ns), .val .deck, .val (.lst L), a3, .emp, .emp, a6, a7, a8, a9, a10, .emp, .val d]) (ev_items (x := .lst L) ev_var rfl) (by rw [sizeLine_eq]; omega) (fun _ _ => rfl) (fun d hd => by
      obtain ⟨c, hc, fs, rfl⟩ := hL d hd
      exact ev_B (ev_op (ev_methT (ev_call (ev_cons ev_var ev_nil) (kinds_ok fs k c hc)) (ev_cons ev_ep ev_nil) (count_ok c hc)) ev_ep rfl)) (fun _ _ h => absurd h Bool.false_ne_true)
  rw [none_left fun _ _ => rfl] at e
  unfold d_law_3
  exact es_ifF (ev_B (ev_op e (ev_lst ev_nil) rfl)) rfl
theorem law5_ok {ns : List Int} {L : List D} {a3 a6 a7 a8 a9 a10 : Sl} {k : Sk} : d_law_5 (sV ns L a3 (.val (.lst told)) .emp a6 a7 a8 a9 a10) k = .nx (sV ns L a3 (.val (.lst told)) (.val (.lst plcs)) a6 a7 a8 a9 a10) k := by kernel_rfl
theorem plain : ∀ ns : List Int, ns.length ≤ 63 → ∃ bl dr cs m t, d_first (.val (.scr ns) :: List.replicate 12 .emp) ⟨none, none⟩ = .ok (deckD bl dr cs m t) ⟨none, none⟩ ∧ ∃ k', d_law (.val (.scr ns) :: .val .deck :: List.replicate 11 .emp) ⟨some ⟨cs, m, t, bl, dr⟩, none⟩ = .ret (.bl true) k' := by
  intro ns hns
  obtain ⟨cs, mm, e0, ok0⟩ := deckA_ok (c0 := 10870000) (c1 := 211) (by decide) (by decide) hns
  refine ⟨false, false, cs, mm, 0, ?_, ?_⟩
  · unfold d_first
    exact ev_call (ev_cons ev_var ev_nil) e0
  · have ok0 := ok0 300 (by decide)
    obtain ⟨s', k2, e2, ⟨L, a3, a6, a7, a8, a9, a10, rfl, hL, hl⟩, ok2⟩ := loop_dr (bl := false) (dr := false) (g := mName 3) (body := d_law_1_b) (f := dN) (fun pre s => ∃ L a3 a6 a7 a8 a9 a10, s = sT ns L a3 a6 a7 a8 a9 a10 ∧ (∀ d ∈ L, Er d) ∧ L.length ≤ 6 + 2 * pre.length) 8 (List.range 9) (b := 100) (s := sT ns bareL .emp .emp .emp .emp .emp .emp) (k := ⟨some ⟨cs, mm, 0, false, false⟩, none⟩) (fun pre i post s b k hm ⟨L, a3, a6, a7, a8, a9, a10, hs, hL, hl⟩ ok => by
      subst hs
      have hi : i < 9 := List.mem_range.mp (by rw [hm]; exact List.mem_append_right _ (List.mem_cons_self ..))
      have hp : pre.length ≤ 9 := by
        have := congrArg List.length hm
        rw [List.length_range, List.length_append] at this; omega
      obtain ⟨L', k', c6, c7, c8, c9, c10, e, h1, h2, ok'⟩ := turn_ok (ns := ns) (i := i) (a6 := a6) (a7 := a7) (a8 := a8) (a9 := a9) (a10 := a10) hi hL (by omega) ok
      exact ⟨_, _, k', rfl, e, ⟨L', .val (dN i), c6, c7, c8, c9, c10, rfl, h1, by rw [List.length_append, List.length_singleton]; omega⟩, ok'⟩) ⟨_, _, _, _, _, _, _, rfl, bare_er, by decide⟩ (ok0.mono (by decide))
    rw [List.length_range] at hl
    obtain ⟨k3, e3, ok3⟩ := dLc_drX (s := sV ns L a3 .emp .emp a6 a7 a8 a9 a10) (k := k2) (k1 := k2) (b := 50) (List.range 10) dN (fun i => sV ns L (.val (dN i)) .emp .emp a6 a7 a8 a9 a10) (fun i => D.lst (kindsL (rz i))) 4 (ti := eb (dCons (ep (.int 10)) dNil) fun ds => eo (rng1 ds)) (g := mName 3) (te := dCall fn__law_caught (dCons (dVar 3) (dCons (dCall fn__law_value (dCons (dVar 1) dNil)) dNil))) (vs := [3])
      (ev_rngN (n := 10) (ev_cons ev_ep ev_nil) (by decide)) (by decide) (fun _ _ => rfl) (fun i hi b k ok => by
        obtain ⟨v, k', h1, _, h3⟩ := value_ok ok
        exact ⟨k', ev_call (ev_cons ev_var (ev_cons (ev_call (ev_cons ev_var ev_nil) h1) ev_nil)) (caught_ok v k' i (List.mem_range.mp hi)), h3⟩) (ok2.mono (by decide))
    obtain ⟨k4, e4, ok4⟩ := wide_ok (b := 0) (ok3.mono (by decide))
    refine ⟨k4, ?_⟩
    unfold d_law
    refine es_ss (s1 := sT ns bareL .emp .emp .emp .emp .emp .emp) (k1 := ⟨some ⟨cs, mm, 0, false, false⟩, none⟩) (by kernel_rfl) ?_
    refine es_ss (es_for (ev_rngN (n := 9) (ev_cons ev_ep ev_nil) (by decide)) e2) ?_
    refine es_frz (d := .lst L) rfl ?_
    show ss d_law_2 (ss d_law_3 (ss d_law_4 (ss d_law_5 d_law_6))) (sV ns L a3 .emp .emp a6 a7 a8 a9 a10) k2 = _
    refine es_ss (law2_ok hL (by omega)) (es_ss (law3_ok hL (by omega)) (es_ss (s1 := sV ns L a3 (.val (.lst told)) .emp a6 a7 a8 a9 a10) (es_asg e3 rfl) (es_ss law5_ok ?_)))
    unfold d_law_6
    exact es_ret (ev_andT (ev_op (ev_callB (ev_cons ev_var ev_nil) rfl) ev_ep rfl) (ev_andT (ev_op (x := .int 10) (ev_un (x := .lst plcs) ev_var (by kernel_rfl)) ev_ep rfl) (ev_call (ev_cons ev_var ev_nil) e4)))
end K00
namespace K00
open PySem PySem.Spec PyProof.Rows L2 G
theorem fd__law_deck {K : PySem.W.Frag} (c : HX.SaysX PySem.Challenge.rw_tallyhouse_k00_errors.prog fa fn fx xs K) : ∃ e, FD K "_law_deck" 29 (He.ga K "_law_deck") e := c.d.def_ 0 (d := dd "_law_deck" 29) rfl
theorem fd__law_bare {K : PySem.W.Frag} (c : HX.SaysX PySem.Challenge.rw_tallyhouse_k00_errors.prog fa fn fx xs K) : ∃ e, FD K "_law_bare" 36 (He.ga K "_law_bare") e := c.d.def_ 1 (d := dd "_law_bare" 36) rfl
theorem fd__law_draw {K : PySem.W.Frag} (c : HX.SaysX PySem.Challenge.rw_tallyhouse_k00_errors.prog fa fn fx xs K) : ∃ e, FD K "_law_draw" 30 (He.ga K "_law_draw") e := c.d.def_ 2 (d := dd "_law_draw" 30) rfl
theorem fd__law_pick {K : PySem.W.Frag} (c : HX.SaysX PySem.Challenge.rw_tallyhouse_k00_errors.prog fa fn fx xs K) : ∃ e, FD K "_law_pick" 31 (He.ga K "_law_pick") e := c.d.def_ 3 (d := dd "_law_pick" 31) rfl
theorem fd__law_value {K : PySem.W.Frag} (c : HX.SaysX PySem.Challenge.rw_tallyhouse_k00_errors.prog fa fn fx xs K) : ∃ e, FD K "_law_value" 32 (He.ga K "_law_value") e := c.d.def_ 4 (d := dd "_law_value" 32) rfl
theorem fd__law_made {K : PySem.W.Frag} (c : HX.SaysX PySem.Challenge.rw_tallyhouse_k00_errors.prog fa fn fx xs K) : ∃ e, FD K "_law_made" 33 (He.ga K "_law_made") e := c.d.def_ 5 (d := dd "_law_made" 33) rfl
theorem fd__law_borne {K : PySem.W.Frag} (c : HX.SaysX PySem.Challenge.rw_tallyhouse_k00_errors.prog fa fn fx xs K) : ∃ e, FD K "_law_borne" 34 (He.ga K "_law_borne") e := c.d.def_ 6 (d := dd "_law_borne" 34) rfl
theorem fd__law_kinds {K : PySem.W.Frag} (c : HX.SaysX PySem.Challenge.rw_tallyhouse_k00_errors.prog fa fn fx xs K) : ∃ e, FD K "_law_kinds" 35 (He.ga K "_law_kinds") e := c.d.def_ 7 (d := dd "_law_kinds" 35) rfl
theorem fd__law_raised {K : PySem.W.Frag} (c : HX.SaysX PySem.Challenge.rw_tallyhouse_k00_errors.prog fa fn fx xs K) : ∃ e, FD K "_law_raised" 37 (He.ga K "_law_raised") e := c.d.def_ 8 (d := dd "_law_raised" 37) rfl
theorem fd__law_caught {K : PySem.W.Frag} (c : HX.SaysX PySem.Challenge.rw_tallyhouse_k00_errors.prog fa fn fx xs K) : ∃ e, FD K "_law_caught" 38 (He.ga K "_law_caught") e := c.d.def_ 9 (d := dd "_law_caught" 38) rfl
theorem fd__law_wide_right {K : PySem.W.Frag} (c : HX.SaysX PySem.Challenge.rw_tallyhouse_k00_errors.prog fa fn fx xs K) : ∃ e, FD K "_law_wide_right" 39 (He.ga K "_law_wide_right") e := c.d.def_ 10 (d := dd "_law_wide_right" 39) rfl
theorem fd_law {K : PySem.W.Frag} (c : HX.SaysX PySem.Challenge.rw_tallyhouse_k00_errors.prog fa fn fx xs K) : ∃ e, FD K "law" 40 (He.ga K "law") e := c.d.def_ 11 (d := dd "law" 40) rfl
theorem bn__law_deck {K : PySem.W.Frag} {f : Addr} {fd : FuncData} (F : FD K "_law_deck" 29 f fd) : L2.Binds K fd ["_law_script"] [] := L2.FunD.bindsN (ps := ["_law_script"]) F (fun _ _ _ _ _ _ us hl => match us, hl with | [_], _ => rfl)
theorem bn__law_bare {K : PySem.W.Frag} {f : Addr} {fd : FuncData} (F : FD K "_law_bare" 36 f fd) : L2.Binds K fd [] [] := L2.FunD.bindsN (ps := []) F (fun _ _ _ _ _ _ us hl => match us, hl with | [], _ => rfl)
theorem bn__law_draw {K : PySem.W.Frag} {f : Addr} {fd : FuncData} (F : FD K "_law_draw" 30 f fd) : L2.Binds K fd ["_law_deck_here", "_law_many"] [] := L2.FunD.bindsN (ps := ["_law_deck_here", "_law_many"]) F (fun _ _ _ _ _ _ us hl => match us, hl with | [_, _], _ => rfl)
theorem bn__law_pick {K : PySem.W.Frag} {f : Addr} {fd : FuncData} (F : FD K "_law_pick" 31 f fd) : L2.Binds K fd ["_law_deck_here", "_law_some"] [] := L2.FunD.bindsN (ps := ["_law_deck_here", "_law_some"]) F (fun _ _ _ _ _ _ us hl => match us, hl with | [_, _], _ => rfl)
theorem bn__law_value {K : PySem.W.Frag} {f : Addr} {fd : FuncData} (F : FD K "_law_value" 32 f fd) : L2.Binds K fd ["_law_deck_here"] [] := L2.FunD.bindsN (ps := ["_law_deck_here"]) F (fun _ _ _ _ _ _ us hl => match us, hl with | [_], _ => rfl)
theorem bn__law_made {K : PySem.W.Frag} {f : Addr} {fd : FuncData} (F : FD K "_law_made" 33 f fd) : L2.Binds K fd ["_law_which", "_law_a", "_law_b"] [] := L2.FunD.bindsN (ps := ["_law_which", "_law_a", "_law_b"]) F (fun _ _ _ _ _ _ us hl => match us, hl with | [_, _, _], _ => rfl)
theorem bn__law_borne {K : PySem.W.Frag} {f : Addr} {fd : FuncData} (F : FD K "_law_borne" 34 f fd) : L2.Binds K fd ["_law_it", "_law_mark"] [] := L2.FunD.bindsN (ps := ["_law_it", "_law_mark"]) F (fun _ _ _ _ _ _ us hl => match us, hl with | [_, _], _ => rfl)
theorem bn__law_kinds {K : PySem.W.Frag} {f : Addr} {fd : FuncData} (F : FD K "_law_kinds" 35 f fd) : L2.Binds K fd ["_law_it"] [] := L2.FunD.bindsN (ps := ["_law_it"]) F (fun _ _ _ _ _ _ us hl => match us, hl with | [_], _ => rfl)
theorem bn__law_raised {K : PySem.W.Frag} {f : Addr} {fd : FuncData} (F : FD K "_law_raised" 37 f fd) : L2.Binds K fd ["_law_which", "_law_a"] [] := L2.FunD.bindsN (ps := ["_law_which", "_law_a"]) F (fun _ _ _ _ _ _ us hl => match us, hl with | [_, _], _ => rfl)
theorem bn__law_caught {K : PySem.W.Frag} {f : Addr} {fd : FuncData} (F : FD K "_law_caught" 38 f fd) : L2.Binds K fd ["_law_which", "_law_a"] [] := L2.FunD.bindsN (ps := ["_law_which", "_law_a"]) F (fun _ _ _ _ _ _ us hl => match us, hl with | [_, _], _ => rfl)
theorem bn__law_wide_right {K : PySem.W.Frag} {f : Addr} {fd : FuncData} (F : FD K "_law_wide_right" 39 f fd) : L2.Binds K fd ["_law_deck_here"] [] := L2.FunD.bindsN (ps := ["_law_deck_here"]) F (fun _ _ _ _ _ _ us hl => match us, hl with | [_], _ => rfl)
theorem ba_law {K : PySem.W.Frag} {f : Addr} {fd : FuncData} (F : FD K "law" 40 f fd) : ∀ (s : Shared) (u : Value), BindsTo s fd ⟨[u], []⟩ [(("_law_script" : Str), u)] := fun s u => L2.FunD.bindsA (ps := ["_law_script"]) F (fun _ _ _ _ _ _ us hl => match us, hl with | [_], _ => rfl) s [u] rfl
theorem ft_g_law {K : PySem.W.Frag} {hp : Heap} {mg : Str → Option Value} (c : HX.SaysX PySem.Challenge.rw_tallyhouse_k00_errors.prog fa fn fx xs K) (KX : K.In hp) (Gn : hp.Ns mainGlobals mg) : mg "law" = some (.ref (He.ga K "law")) := He.glo_ok KX Gn (c.d.fact 0 (f := .glo "law") rfl)
theorem ft_m_list {K : PySem.W.Frag} {hp : Heap} {mg : Str → Option Value} (c : HX.SaysX PySem.Challenge.rw_tallyhouse_k00_errors.prog fa fn fx xs K) (KX : K.In hp) (Gn : hp.Ns mainGlobals mg) : mg "list" = none := He.free_ok KX Gn (c.d.fact 1 (f := .free "list") rfl)
theorem ft_m_int {K : PySem.W.Frag} {hp : Heap} {mg : Str → Option Value} (c : HX.SaysX PySem.Challenge.rw_tallyhouse_k00_errors.prog fa fn fx xs K) (KX : K.In hp) (Gn : hp.Ns mainGlobals mg) : mg "int" = none := He.free_ok KX Gn (c.d.fact 2 (f := .free "int") rfl)
theorem ft_g__law_deck {K : PySem.W.Frag} {hp : Heap} {mg : Str → Option Value} (c : HX.SaysX PySem.Challenge.rw_tallyhouse_k00_errors.prog fa fn fx xs K) (KX : K.In hp) (Gn : hp.Ns mainGlobals mg) : mg "_law_deck" = some (.ref (He.ga K "_law_deck")) := He.glo_ok KX Gn (c.d.fact 3 (f := .glo "_law_deck") rfl)
theorem ft_xo_InvalidCommand {K : PySem.W.Frag} {hp : Heap} {mg : Str → Option Value} (c : HX.SaysX PySem.Challenge.rw_tallyhouse_k00_errors.prog fa fn fx xs K) (KX : K.In hp) (Gn : hp.Ns mainGlobals mg) : ExcO K mg "InvalidCommand" (He.ga K "InvalidCommand") := HY.exco_ok KX Gn (c.x 0 (f := HY.excoB "InvalidCommand") rfl)
theorem ft_xo_NothingToRedo {K : PySem.W.Frag} {hp : Heap} {mg : Str → Option Value} (c : HX.SaysX PySem.Challenge.rw_tallyhouse_k00_errors.prog fa fn fx xs K) (KX : K.In hp) (Gn : hp.Ns mainGlobals mg) : ExcO K mg "NothingToRedo" (He.ga K "NothingToRedo") := HY.exco_ok KX Gn (c.x 1 (f := HY.excoB "NothingToRedo") rfl)
theorem ft_xo_NothingToUndo {K : PySem.W.Frag} {hp : Heap} {mg : Str → Option Value} (c : HX.SaysX PySem.Challenge.rw_tallyhouse_k00_errors.prog fa fn fx xs K) (KX : K.In hp) (Gn : hp.Ns mainGlobals mg) : ExcO K mg "NothingToUndo" (He.ga K "NothingToUndo") := HY.exco_ok KX Gn (c.x 2 (f := HY.excoB "NothingToUndo") rfl)
theorem ft_xo_OtherRoll {K : PySem.W.Frag} {hp : Heap} {mg : Str → Option Value} (c : HX.SaysX PySem.Challenge.rw_tallyhouse_k00_errors.prog fa fn fx xs K) (KX : K.In hp) (Gn : hp.Ns mainGlobals mg) : ExcO K mg "OtherRoll" (He.ga K "OtherRoll") := HY.exco_ok KX Gn (c.x 3 (f := HY.excoB "OtherRoll") rfl)
theorem ft_xo_OtherTally {K : PySem.W.Frag} {hp : Heap} {mg : Str → Option Value} (c : HX.SaysX PySem.Challenge.rw_tallyhouse_k00_errors.prog fa fn fx xs K) (KX : K.In hp) (Gn : hp.Ns mainGlobals mg) : ExcO K mg "OtherTally" (He.ga K "OtherTally") := HY.exco_ok KX Gn (c.x 4 (f := HY.excoB "OtherTally") rfl)
theorem ft_xo_OtherDigits {K : PySem.W.Frag} {hp : Heap} {mg : Str → Option Value} (c : HX.SaysX PySem.Challenge.rw_tallyhouse_k00_errors.prog fa fn fx xs K) (KX : K.In hp) (Gn : hp.Ns mainGlobals mg) : ExcO K mg "OtherDigits" (He.ga K "OtherDigits") := HY.exco_ok KX Gn (c.x 5 (f := HY.excoB "OtherDigits") rfl)
theorem ft_g__law_bare {K : PySem.W.Frag} {hp : Heap} {mg : Str → Option Value} (c : HX.SaysX PySem.Challenge.rw_tallyhouse_k00_errors.prog fa fn fx xs K) (KX : K.In hp) (Gn : hp.Ns mainGlobals mg) : mg "_law_bare" = some (.ref (He.ga K "_law_bare")) := He.glo_ok KX Gn (c.d.fact 4 (f := .glo "_law_bare") rfl)
theorem ft_g__law_draw {K : PySem.W.Frag} {hp : Heap} {mg : Str → Option Value} (c : HX.SaysX PySem.Challenge.rw_tallyhouse_k00_errors.prog fa fn fx xs K) (KX : K.In hp) (Gn : hp.Ns mainGlobals mg) : mg "_law_draw" = some (.ref (He.ga K "_law_draw")) := He.glo_ok KX Gn (c.d.fact 5 (f := .glo "_law_draw") rfl)
theorem ft_m_len {K : PySem.W.Frag} {hp : Heap} {mg : Str → Option Value} (c : HX.SaysX PySem.Challenge.rw_tallyhouse_k00_errors.prog fa fn fx xs K) (KX : K.In hp) (Gn : hp.Ns mainGlobals mg) : mg "len" = none := He.free_ok KX Gn (c.d.fact 6 (f := .free "len") rfl)
theorem ft_g__law_pick {K : PySem.W.Frag} {hp : Heap} {mg : Str → Option Value} (c : HX.SaysX PySem.Challenge.rw_tallyhouse_k00_errors.prog fa fn fx xs K) (KX : K.In hp) (Gn : hp.Ns mainGlobals mg) : mg "_law_pick" = some (.ref (He.ga K "_law_pick")) := He.glo_ok KX Gn (c.d.fact 7 (f := .glo "_law_pick") rfl)
theorem ft_m_str {K : PySem.W.Frag} {hp : Heap} {mg : Str → Option Value} (c : HX.SaysX PySem.Challenge.rw_tallyhouse_k00_errors.prog fa fn fx xs K) (KX : K.In hp) (Gn : hp.Ns mainGlobals mg) : mg "str" = none := He.free_ok KX Gn (c.d.fact 8 (f := .free "str") rfl)
theorem ft_g__law_value {K : PySem.W.Frag} {hp : Heap} {mg : Str → Option Value} (c : HX.SaysX PySem.Challenge.rw_tallyhouse_k00_errors.prog fa fn fx xs K) (KX : K.In hp) (Gn : hp.Ns mainGlobals mg) : mg "_law_value" = some (.ref (He.ga K "_law_value")) := He.glo_ok KX Gn (c.d.fact 9 (f := .glo "_law_value") rfl)
theorem ft_xn_BadText {K : PySem.W.Frag} {hp : Heap} {mg : Str → Option Value} (cz : HZ.SaysZ PySem.Challenge.rw_tallyhouse_k00_errors.prog fa fn fx xs fwrap xn K) (KX : K.In hp) (Gn : hp.Ns mainGlobals mg) : XN.ExcN PySem.Challenge.rw_tallyhouse_k00_errors.prog K mg "BadText" xd_BadText.qual xd_BadText.a xd_BadText.q xp_BadText (He.ga K "BadText") (He.ma K (He.ga K "BadText") "__init__") := cz.n KX Gn 0 (d := xd_BadText) rfl
theorem ft_xn_BadTally {K : PySem.W.Frag} {hp : Heap} {mg : Str → Option Value} (cz : HZ.SaysZ PySem.Challenge.rw_tallyhouse_k00_errors.prog fa fn fx xs fwrap xn K) (KX : K.In hp) (Gn : hp.Ns mainGlobals mg) : XN.ExcN PySem.Challenge.rw_tallyhouse_k00_errors.prog K mg "BadTally" xd_BadTally.qual xd_BadTally.a xd_BadTally.q xp_BadTally (He.ga K "BadTally") (He.ma K (He.ga K "BadTally") "__init__") := cz.n KX Gn 1 (d := xd_BadTally) rfl
theorem ft_xn_BadRewriter {K : PySem.W.Frag} {hp : Heap} {mg : Str → Option Value} (cz : HZ.SaysZ PySem.Challenge.rw_tallyhouse_k00_errors.prog fa fn fx xs fwrap xn K) (KX : K.In hp) (Gn : hp.Ns mainGlobals mg) : XN.ExcN PySem.Challenge.rw_tallyhouse_k00_errors.prog K mg "BadRewriter" xd_BadRewriter.qual xd_BadRewriter.a xd_BadRewriter.q xp_BadRewriter (He.ga K "BadRewriter") (He.ma K (He.ga K "BadRewriter") "__init__") := cz.n KX Gn 2 (d := xd_BadRewriter) rfl
theorem ft_xn_BadTicket {K : PySem.W.Frag} {hp : Heap} {mg : Str → Option Value} (cz : HZ.SaysZ PySem.Challenge.rw_tallyhouse_k00_errors.prog fa fn fx xs fwrap xn K) (KX : K.In hp) (Gn : hp.Ns mainGlobals mg) : XN.ExcN PySem.Challenge.rw_tallyhouse_k00_errors.prog K mg "BadTicket" xd_BadTicket.qual xd_BadTicket.a xd_BadTicket.q xp_BadTicket (He.ga K "BadTicket") (He.ma K (He.ga K "BadTicket") "__init__") := cz.n KX Gn 3 (d := xd_BadTicket) rfl
theorem ft_xn_Unbounded {K : PySem.W.Frag} {hp : Heap} {mg : Str → Option Value} (cz : HZ.SaysZ PySem.Challenge.rw_tallyhouse_k00_errors.prog fa fn fx xs fwrap xn K) (KX : K.In hp) (Gn : hp.Ns mainGlobals mg) : XN.ExcN PySem.Challenge.rw_tallyhouse_k00_errors.prog K mg "Unbounded" xd_Unbounded.qual xd_Unbounded.a xd_Unbounded.q xp_Unbounded (He.ga K "Unbounded") (He.ma K (He.ga K "Unbounded") "__init__") := cz.n KX Gn 4 (d := xd_Unbounded) rfl
theorem ft_xn_DoesDouble {K : PySem.W.Frag} {hp : Heap} {mg : Str → Option Value} (cz : HZ.SaysZ PySem.Challenge.rw_tallyhouse_k00_errors.prog fa fn fx xs fwrap xn K) (KX : K.In hp) (Gn : hp.Ns mainGlobals mg) : XN.ExcN PySem.Challenge.rw_tallyhouse_k00_errors.prog K mg "DoesDouble" xd_DoesDouble.qual xd_DoesDouble.a xd_DoesDouble.q xp_DoesDouble (He.ga K "DoesDouble") (He.ma K (He.ga K "DoesDouble") "__init__") := cz.n KX Gn 5 (d := xd_DoesDouble) rfl
theorem ft_xn_CannotBe {K : PySem.W.Frag} {hp : Heap} {mg : Str → Option Value} (cz : HZ.SaysZ PySem.Challenge.rw_tallyhouse_k00_errors.prog fa fn fx xs fwrap xn K) (KX : K.In hp) (Gn : hp.Ns mainGlobals mg) : XN.ExcN PySem.Challenge.rw_tallyhouse_k00_errors.prog K mg "CannotBe" xd_CannotBe.qual xd_CannotBe.a xd_CannotBe.q xp_CannotBe (He.ga K "CannotBe") (He.ma K (He.ga K "CannotBe") "__init__") := cz.n KX Gn 6 (d := xd_CannotBe) rfl
theorem ft_xn_BadTold {K : PySem.W.Frag} {hp : Heap} {mg : Str → Option Value} (cz : HZ.SaysZ PySem.Challenge.rw_tallyhouse_k00_errors.prog fa fn fx xs fwrap xn K) (KX : K.In hp) (Gn : hp.Ns mainGlobals mg) : XN.ExcN PySem.Challenge.rw_tallyhouse_k00_errors.prog K mg "BadTold" xd_BadTold.qual xd_BadTold.a xd_BadTold.q xp_BadTold (He.ga K "BadTold") (He.ma K (He.ga K "BadTold") "__init__") := cz.n KX Gn 7 (d := xd_BadTold) rfl
theorem ft_xn_BadName {K : PySem.W.Frag} {hp : Heap} {mg : Str → Option Value} (cz : HZ.SaysZ PySem.Challenge.rw_tallyhouse_k00_errors.prog fa fn fx xs fwrap xn K) (KX : K.In hp) (Gn : hp.Ns mainGlobals mg) : XN.ExcN PySem.Challenge.rw_tallyhouse_k00_errors.prog K mg "BadName" xd_BadName.qual xd_BadName.a xd_BadName.q xp_BadName (He.ga K "BadName") (He.ma K (He.ga K "BadName") "__init__") := cz.n KX Gn 8 (d := xd_BadName) rfl
theorem ft_xn_BadDigit {K : PySem.W.Frag} {hp : Heap} {mg : Str → Option Value} (cz : HZ.SaysZ PySem.Challenge.rw_tallyhouse_k00_errors.prog fa fn fx xs fwrap xn K) (KX : K.In hp) (Gn : hp.Ns mainGlobals mg) : XN.ExcN PySem.Challenge.rw_tallyhouse_k00_errors.prog K mg "BadDigit" xd_BadDigit.qual xd_BadDigit.a xd_BadDigit.q xp_BadDigit (He.ga K "BadDigit") (He.ma K (He.ga K "BadDigit") "__init__") := cz.n KX Gn 9 (d := xd_BadDigit) rfl
theorem ft_xn_NoName {K : PySem.W.Frag} {hp : Heap} {mg : Str → Option Value} (cz : HZ.SaysZ PySem.Challenge.rw_tallyhouse_k00_errors.prog fa fn fx xs fwrap xn K) (KX : K.In hp) (Gn : hp.Ns mainGlobals mg) : XN.ExcN PySem.Challenge.rw_tallyhouse_k00_errors.prog K mg "NoName" xd_NoName.qual xd_NoName.a xd_NoName.q xp_NoName (He.ga K "NoName") (He.ma K (He.ga K "NoName") "__init__") := cz.n KX Gn 10 (d := xd_NoName) rfl
theorem ft_xn_NameTaken {K : PySem.W.Frag} {hp : Heap} {mg : Str → Option Value} (cz : HZ.SaysZ PySem.Challenge.rw_tallyhouse_k00_errors.prog fa fn fx xs fwrap xn K) (KX : K.In hp) (Gn : hp.Ns mainGlobals mg) : XN.ExcN PySem.Challenge.rw_tallyhouse_k00_errors.prog K mg "NameTaken" xd_NameTaken.qual xd_NameTaken.a xd_NameTaken.q xp_NameTaken (He.ga K "NameTaken") (He.ma K (He.ga K "NameTaken") "__init__") := cz.n KX Gn 11 (d := xd_NameTaken) rfl
theorem ft_xn_NoPromise {K : PySem.W.Frag} {hp : Heap} {mg : Str → Option Value} (cz : HZ.SaysZ PySem.Challenge.rw_tallyhouse_k00_errors.prog fa fn fx xs fwrap xn K) (KX : K.In hp) (Gn : hp.Ns mainGlobals mg) : XN.ExcN PySem.Challenge.rw_tallyhouse_k00_errors.prog K mg "NoPromise" xd_NoPromise.qual xd_NoPromise.a xd_NoPromise.q xp_NoPromise (He.ga K "NoPromise") (He.ma K (He.ga K "NoPromise") "__init__") := cz.n KX Gn 12 (d := xd_NoPromise) rfl
theorem ft_xn_BadPromise {K : PySem.W.Frag} {hp : Heap} {mg : Str → Option Value} (cz : HZ.SaysZ PySem.Challenge.rw_tallyhouse_k00_errors.prog fa fn fx xs fwrap xn K) (KX : K.In hp) (Gn : hp.Ns mainGlobals mg) : XN.ExcN PySem.Challenge.rw_tallyhouse_k00_errors.prog K mg "BadPromise" xd_BadPromise.qual xd_BadPromise.a xd_BadPromise.q xp_BadPromise (He.ga K "BadPromise") (He.ma K (He.ga K "BadPromise") "__init__") := cz.n KX Gn 13 (d := xd_BadPromise) rfl
theorem ft_xn_SoldBefore {K : PySem.W.Frag} {hp : Heap} {mg : Str → Option Value} (cz : HZ.SaysZ PySem.Challenge.rw_tallyhouse_k00_errors.prog fa fn fx xs fwrap xn K) (KX : K.In hp) (Gn : hp.Ns mainGlobals mg) : XN.ExcN PySem.Challenge.rw_tallyhouse_k00_errors.prog K mg "SoldBefore" xd_SoldBefore.qual xd_SoldBefore.a xd_SoldBefore.q xp_SoldBefore (He.ga K "SoldBefore") (He.ma K (He.ga K "SoldBefore") "__init__") := cz.n KX Gn 14 (d := xd_SoldBefore) rfl
theorem ft_xn_BadDeed {K : PySem.W.Frag} {hp : Heap} {mg : Str → Option Value} (cz : HZ.SaysZ PySem.Challenge.rw_tallyhouse_k00_errors.prog fa fn fx xs fwrap xn K) (KX : K.In hp) (Gn : hp.Ns mainGlobals mg) : XN.ExcN PySem.Challenge.rw_tallyhouse_k00_errors.prog K mg "BadDeed" xd_BadDeed.qual xd_BadDeed.a xd_BadDeed.q xp_BadDeed (He.ga K "BadDeed") (He.ma K (He.ga K "BadDeed") "__init__") := cz.n KX Gn 15 (d := xd_BadDeed) rfl
theorem ft_xn_NotSold {K : PySem.W.Frag} {hp : Heap} {mg : Str → Option Value} (cz : HZ.SaysZ PySem.Challenge.rw_tallyhouse_k00_errors.prog fa fn fx xs fwrap xn K) (KX : K.In hp) (Gn : hp.Ns mainGlobals mg) : XN.ExcN PySem.Challenge.rw_tallyhouse_k00_errors.prog K mg "NotSold" xd_NotSold.qual xd_NotSold.a xd_NotSold.q xp_NotSold (He.ga K "NotSold") (He.ma K (He.ga K "NotSold") "__init__") := cz.n KX Gn 16 (d := xd_NotSold) rfl
theorem ft_g__law_made {K : PySem.W.Frag} {hp : Heap} {mg : Str → Option Value} (c : HX.SaysX PySem.Challenge.rw_tallyhouse_k00_errors.prog fa fn fx xs K) (KX : K.In hp) (Gn : hp.Ns mainGlobals mg) : mg "_law_made" = some (.ref (He.ga K "_law_made")) := He.glo_ok KX Gn (c.d.fact 10 (f := .glo "_law_made") rfl)
theorem ft_g_BadRewriter {K : PySem.W.Frag} {hp : Heap} {mg : Str → Option Value} (c : HX.SaysX PySem.Challenge.rw_tallyhouse_k00_errors.prog fa fn fx xs K) (KX : K.In hp) (Gn : hp.Ns mainGlobals mg) : mg "BadRewriter" = some (.ref (He.ga K "BadRewriter")) := He.glo_ok KX Gn (c.d.fact 11 (f := .glo "BadRewriter") rfl)
theorem ft_cl_BadRewriter {K : PySem.W.Frag} {hp : Heap} {mg : Str → Option Value} (c : HX.SaysX PySem.Challenge.rw_tallyhouse_k00_errors.prog fa fn fx xs K) (KX : K.In hp) (Gn : hp.Ns mainGlobals mg) : G.clOf mg "BadRewriter" = some (He.ga K "BadRewriter") := G.clOf_of (K00.ft_g_BadRewriter c KX Gn)
theorem ft_g_BadTally {K : PySem.W.Frag} {hp : Heap} {mg : Str → Option Value} (c : HX.SaysX PySem.Challenge.rw_tallyhouse_k00_errors.prog fa fn fx xs K) (KX : K.In hp) (Gn : hp.Ns mainGlobals mg) : mg "BadTally" = some (.ref (He.ga K "BadTally")) := He.glo_ok KX Gn (c.d.fact 12 (f := .glo "BadTally") rfl)
theorem ft_cl_BadTally {K : PySem.W.Frag} {hp : Heap} {mg : Str → Option Value} (c : HX.SaysX PySem.Challenge.rw_tallyhouse_k00_errors.prog fa fn fx xs K) (KX : K.In hp) (Gn : hp.Ns mainGlobals mg) : G.clOf mg "BadTally" = some (He.ga K "BadTally") := G.clOf_of (K00.ft_g_BadTally c KX Gn)
theorem ft_xf_BadTally_BadRewriter_part {K : PySem.W.Frag} {hp : Heap} {mg : Str → Option Value} (c : HX.SaysX PySem.Challenge.rw_tallyhouse_k00_errors.prog fa fn fx xs K) (KX : K.In hp) (Gn : hp.Ns mainGlobals mg) : ∀ c ∈ (["BadTally", "BadRewriter"] : List Str), ∀ C, clOf mg c = some C → XFld K C "part" := (G.xf_cons (K00.ft_cl_BadTally c KX Gn) (HX.xfld_ok (c.x 7 (f := HX.xfldB "BadTally" "part") rfl)) (G.xf_cons (K00.ft_cl_BadRewriter c KX Gn) (HX.xfld_ok (c.x 6 (f := HX.xfldB "BadRewriter" "part") rfl)) G.xf_nil))
theorem ft_g_BadText {K : PySem.W.Frag} {hp : Heap} {mg : Str → Option Value} (c : HX.SaysX PySem.Challenge.rw_tallyhouse_k00_errors.prog fa fn fx xs K) (KX : K.In hp) (Gn : hp.Ns mainGlobals mg) : mg "BadText" = some (.ref (He.ga K "BadText")) := He.glo_ok KX Gn (c.d.fact 13 (f := .glo "BadText") rfl)
theorem ft_cl_BadText {K : PySem.W.Frag} {hp : Heap} {mg : Str → Option Value} (c : HX.SaysX PySem.Challenge.rw_tallyhouse_k00_errors.prog fa fn fx xs K) (KX : K.In hp) (Gn : hp.Ns mainGlobals mg) : G.clOf mg "BadText" = some (He.ga K "BadText") := G.clOf_of (K00.ft_g_BadText c KX Gn)
theorem ft_xf_BadText_line {K : PySem.W.Frag} {hp : Heap} {mg : Str → Option Value} (c : HX.SaysX PySem.Challenge.rw_tallyhouse_k00_errors.prog fa fn fx xs K) (KX : K.In hp) (Gn : hp.Ns mainGlobals mg) : ∀ c ∈ (["BadText"] : List Str), ∀ C, clOf mg c = some C → XFld K C "line" := (G.xf_cons (K00.ft_cl_BadText c KX Gn) (HX.xfld_ok (c.x 8 (f := HX.xfldB "BadText" "line") rfl)) G.xf_nil)
theorem ft_g_NotSold {K : PySem.W.Frag} {hp : Heap} {mg : Str → Option Value} (c : HX.SaysX PySem.Challenge.rw_tallyhouse_k00_errors.prog fa fn fx xs K) (KX : K.In hp) (Gn : hp.Ns mainGlobals mg) : mg "NotSold" = some (.ref (He.ga K "NotSold")) := He.glo_ok KX Gn (c.d.fact 14 (f := .glo "NotSold") rfl)
theorem ft_cl_NotSold {K : PySem.W.Frag} {hp : Heap} {mg : Str → Option Value} (c : HX.SaysX PySem.Challenge.rw_tallyhouse_k00_errors.prog fa fn fx xs K) (KX : K.In hp) (Gn : hp.Ns mainGlobals mg) : G.clOf mg "NotSold" = some (He.ga K "NotSold") := G.clOf_of (K00.ft_g_NotSold c KX Gn)
theorem ft_g_SoldBefore {K : PySem.W.Frag} {hp : Heap} {mg : Str → Option Value} (c : HX.SaysX PySem.Challenge.rw_tallyhouse_k00_errors.prog fa fn fx xs K) (KX : K.In hp) (Gn : hp.Ns mainGlobals mg) : mg "SoldBefore" = some (.ref (He.ga K "SoldBefore")) := He.glo_ok KX Gn (c.d.fact 15 (f := .glo "SoldBefore") rfl)
theorem ft_cl_SoldBefore {K : PySem.W.Frag} {hp : Heap} {mg : Str → Option Value} (c : HX.SaysX PySem.Challenge.rw_tallyhouse_k00_errors.prog fa fn fx xs K) (KX : K.In hp) (Gn : hp.Ns mainGlobals mg) : G.clOf mg "SoldBefore" = some (He.ga K "SoldBefore") := G.clOf_of (K00.ft_g_SoldBefore c KX Gn)
theorem ft_g_BadTicket {K : PySem.W.Frag} {hp : Heap} {mg : Str → Option Value} (c : HX.SaysX PySem.Challenge.rw_tallyhouse_k00_errors.prog fa fn fx xs K) (KX : K.In hp) (Gn : hp.Ns mainGlobals mg) : mg "BadTicket" = some (.ref (He.ga K "BadTicket")) := He.glo_ok KX Gn (c.d.fact 16 (f := .glo "BadTicket") rfl)
theorem ft_cl_BadTicket {K : PySem.W.Frag} {hp : Heap} {mg : Str → Option Value} (c : HX.SaysX PySem.Challenge.rw_tallyhouse_k00_errors.prog fa fn fx xs K) (KX : K.In hp) (Gn : hp.Ns mainGlobals mg) : G.clOf mg "BadTicket" = some (He.ga K "BadTicket") := G.clOf_of (K00.ft_g_BadTicket c KX Gn)
theorem ft_xf_BadTicket_SoldBefore_NotSold_ticket {K : PySem.W.Frag} {hp : Heap} {mg : Str → Option Value} (c : HX.SaysX PySem.Challenge.rw_tallyhouse_k00_errors.prog fa fn fx xs K) (KX : K.In hp) (Gn : hp.Ns mainGlobals mg) : ∀ c ∈ (["BadTicket", "SoldBefore", "NotSold"] : List Str), ∀ C, clOf mg c = some C → XFld K C "ticket" := (G.xf_cons (K00.ft_cl_BadTicket c KX Gn) (HX.xfld_ok (c.x 11 (f := HX.xfldB "BadTicket" "ticket") rfl)) (G.xf_cons (K00.ft_cl_SoldBefore c KX Gn) (HX.xfld_ok (c.x 10 (f := HX.xfldB "SoldBefore" "ticket") rfl)) (G.xf_cons (K00.ft_cl_NotSold c KX Gn) (HX.xfld_ok (c.x 9 (f := HX.xfldB "NotSold" "ticket") rfl)) G.xf_nil)))
theorem ft_g_CannotBe {K : PySem.W.Frag} {hp : Heap} {mg : Str → Option Value} (c : HX.SaysX PySem.Challenge.rw_tallyhouse_k00_errors.prog fa fn fx xs K) (KX : K.In hp) (Gn : hp.Ns mainGlobals mg) : mg "CannotBe" = some (.ref (He.ga K "CannotBe")) := He.glo_ok KX Gn (c.d.fact 17 (f := .glo "CannotBe") rfl)
theorem ft_cl_CannotBe {K : PySem.W.Frag} {hp : Heap} {mg : Str → Option Value} (c : HX.SaysX PySem.Challenge.rw_tallyhouse_k00_errors.prog fa fn fx xs K) (KX : K.In hp) (Gn : hp.Ns mainGlobals mg) : G.clOf mg "CannotBe" = some (He.ga K "CannotBe") := G.clOf_of (K00.ft_g_CannotBe c KX Gn)
theorem ft_g_Unbounded {K : PySem.W.Frag} {hp : Heap} {mg : Str → Option Value} (c : HX.SaysX PySem.Challenge.rw_tallyhouse_k00_errors.prog fa fn fx xs K) (KX : K.In hp) (Gn : hp.Ns mainGlobals mg) : mg "Unbounded" = some (.ref (He.ga K "Unbounded")) := He.glo_ok KX Gn (c.d.fact 18 (f := .glo "Unbounded") rfl)
theorem ft_cl_Unbounded {K : PySem.W.Frag} {hp : Heap} {mg : Str → Option Value} (c : HX.SaysX PySem.Challenge.rw_tallyhouse_k00_errors.prog fa fn fx xs K) (KX : K.In hp) (Gn : hp.Ns mainGlobals mg) : G.clOf mg "Unbounded" = some (He.ga K "Unbounded") := G.clOf_of (K00.ft_g_Unbounded c KX Gn)
theorem ft_g_DoesDouble {K : PySem.W.Frag} {hp : Heap} {mg : Str → Option Value} (c : HX.SaysX PySem.Challenge.rw_tallyhouse_k00_errors.prog fa fn fx xs K) (KX : K.In hp) (Gn : hp.Ns mainGlobals mg) : mg "DoesDouble" = some (.ref (He.ga K "DoesDouble")) := He.glo_ok KX Gn (c.d.fact 19 (f := .glo "DoesDouble") rfl)
theorem ft_cl_DoesDouble {K : PySem.W.Frag} {hp : Heap} {mg : Str → Option Value} (c : HX.SaysX PySem.Challenge.rw_tallyhouse_k00_errors.prog fa fn fx xs K) (KX : K.In hp) (Gn : hp.Ns mainGlobals mg) : G.clOf mg "DoesDouble" = some (He.ga K "DoesDouble") := G.clOf_of (K00.ft_g_DoesDouble c KX Gn)
theorem ft_xf_DoesDouble_Unbounded_CannotBe_paper {K : PySem.W.Frag} {hp : Heap} {mg : Str → Option Value} (c : HX.SaysX PySem.Challenge.rw_tallyhouse_k00_errors.prog fa fn fx xs K) (KX : K.In hp) (Gn : hp.Ns mainGlobals mg) : ∀ c ∈ (["DoesDouble", "Unbounded", "CannotBe"] : List Str), ∀ C, clOf mg c = some C → XFld K C "paper" := (G.xf_cons (K00.ft_cl_DoesDouble c KX Gn) (HX.xfld_ok (c.x 14 (f := HX.xfldB "DoesDouble" "paper") rfl)) (G.xf_cons (K00.ft_cl_Unbounded c KX Gn) (HX.xfld_ok (c.x 13 (f := HX.xfldB "Unbounded" "paper") rfl)) (G.xf_cons (K00.ft_cl_CannotBe c KX Gn) (HX.xfld_ok (c.x 12 (f := HX.xfldB "CannotBe" "paper") rfl)) G.xf_nil)))
theorem ft_g_BadDeed {K : PySem.W.Frag} {hp : Heap} {mg : Str → Option Value} (c : HX.SaysX PySem.Challenge.rw_tallyhouse_k00_errors.prog fa fn fx xs K) (KX : K.In hp) (Gn : hp.Ns mainGlobals mg) : mg "BadDeed" = some (.ref (He.ga K "BadDeed")) := He.glo_ok KX Gn (c.d.fact 20 (f := .glo "BadDeed") rfl)
theorem ft_cl_BadDeed {K : PySem.W.Frag} {hp : Heap} {mg : Str → Option Value} (c : HX.SaysX PySem.Challenge.rw_tallyhouse_k00_errors.prog fa fn fx xs K) (KX : K.In hp) (Gn : hp.Ns mainGlobals mg) : G.clOf mg "BadDeed" = some (He.ga K "BadDeed") := G.clOf_of (K00.ft_g_BadDeed c KX Gn)
theorem ft_g_BadTold {K : PySem.W.Frag} {hp : Heap} {mg : Str → Option Value} (c : HX.SaysX PySem.Challenge.rw_tallyhouse_k00_errors.prog fa fn fx xs K) (KX : K.In hp) (Gn : hp.Ns mainGlobals mg) : mg "BadTold" = some (.ref (He.ga K "BadTold")) := He.glo_ok KX Gn (c.d.fact 21 (f := .glo "BadTold") rfl)
theorem ft_cl_BadTold {K : PySem.W.Frag} {hp : Heap} {mg : Str → Option Value} (c : HX.SaysX PySem.Challenge.rw_tallyhouse_k00_errors.prog fa fn fx xs K) (KX : K.In hp) (Gn : hp.Ns mainGlobals mg) : G.clOf mg "BadTold" = some (He.ga K "BadTold") := G.clOf_of (K00.ft_g_BadTold c KX Gn)
theorem ft_xf_BadTold_BadDeed_number {K : PySem.W.Frag} {hp : Heap} {mg : Str → Option Value} (c : HX.SaysX PySem.Challenge.rw_tallyhouse_k00_errors.prog fa fn fx xs K) (KX : K.In hp) (Gn : hp.Ns mainGlobals mg) : ∀ c ∈ (["BadTold", "BadDeed"] : List Str), ∀ C, clOf mg c = some C → XFld K C "number" := (G.xf_cons (K00.ft_cl_BadTold c KX Gn) (HX.xfld_ok (c.x 16 (f := HX.xfldB "BadTold" "number") rfl)) (G.xf_cons (K00.ft_cl_BadDeed c KX Gn) (HX.xfld_ok (c.x 15 (f := HX.xfldB "BadDeed" "number") rfl)) G.xf_nil))
theorem ft_g_BadDigit {K : PySem.W.Frag} {hp : Heap} {mg : Str → Option Value} (c : HX.SaysX PySem.Challenge.rw_tallyhouse_k00_errors.prog fa fn fx xs K) (KX : K.In hp) (Gn : hp.Ns mainGlobals mg) : mg "BadDigit" = some (.ref (He.ga K "BadDigit")) := He.glo_ok KX Gn (c.d.fact 22 (f := .glo "BadDigit") rfl)
theorem ft_cl_BadDigit {K : PySem.W.Frag} {hp : Heap} {mg : Str → Option Value} (c : HX.SaysX PySem.Challenge.rw_tallyhouse_k00_errors.prog fa fn fx xs K) (KX : K.In hp) (Gn : hp.Ns mainGlobals mg) : G.clOf mg "BadDigit" = some (He.ga K "BadDigit") := G.clOf_of (K00.ft_g_BadDigit c KX Gn)
theorem ft_xf_BadDigit_digit {K : PySem.W.Frag} {hp : Heap} {mg : Str → Option Value} (c : HX.SaysX PySem.Challenge.rw_tallyhouse_k00_errors.prog fa fn fx xs K) (KX : K.In hp) (Gn : hp.Ns mainGlobals mg) : ∀ c ∈ (["BadDigit"] : List Str), ∀ C, clOf mg c = some C → XFld K C "digit" := (G.xf_cons (K00.ft_cl_BadDigit c KX Gn) (HX.xfld_ok (c.x 17 (f := HX.xfldB "BadDigit" "digit") rfl)) G.xf_nil)
theorem ft_g_Needed {K : PySem.W.Frag} {hp : Heap} {mg : Str → Option Value} (c : HX.SaysX PySem.Challenge.rw_tallyhouse_k00_errors.prog fa fn fx xs K) (KX : K.In hp) (Gn : hp.Ns mainGlobals mg) : mg "Needed" = some (.ref (He.ga K "Needed")) := He.glo_ok KX Gn (c.d.fact 23 (f := .glo "Needed") rfl)
theorem ft_cl_Needed {K : PySem.W.Frag} {hp : Heap} {mg : Str → Option Value} (c : HX.SaysX PySem.Challenge.rw_tallyhouse_k00_errors.prog fa fn fx xs K) (KX : K.In hp) (Gn : hp.Ns mainGlobals mg) : G.clOf mg "Needed" = some (He.ga K "Needed") := G.clOf_of (K00.ft_g_Needed c KX Gn)
theorem ft_g_Unkept {K : PySem.W.Frag} {hp : Heap} {mg : Str → Option Value} (c : HX.SaysX PySem.Challenge.rw_tallyhouse_k00_errors.prog fa fn fx xs K) (KX : K.In hp) (Gn : hp.Ns mainGlobals mg) : mg "Unkept" = some (.ref (He.ga K "Unkept")) := He.glo_ok KX Gn (c.d.fact 24 (f := .glo "Unkept") rfl)
theorem ft_cl_Unkept {K : PySem.W.Frag} {hp : Heap} {mg : Str → Option Value} (c : HX.SaysX PySem.Challenge.rw_tallyhouse_k00_errors.prog fa fn fx xs K) (KX : K.In hp) (Gn : hp.Ns mainGlobals mg) : G.clOf mg "Unkept" = some (He.ga K "Unkept") := G.clOf_of (K00.ft_g_Unkept c KX Gn)
theorem ft_g_NoName {K : PySem.W.Frag} {hp : Heap} {mg : Str → Option Value} (c : HX.SaysX PySem.Challenge.rw_tallyhouse_k00_errors.prog fa fn fx xs K) (KX : K.In hp) (Gn : hp.Ns mainGlobals mg) : mg "NoName" = some (.ref (He.ga K "NoName")) := He.glo_ok KX Gn (c.d.fact 25 (f := .glo "NoName") rfl)
theorem ft_cl_NoName {K : PySem.W.Frag} {hp : Heap} {mg : Str → Option Value} (c : HX.SaysX PySem.Challenge.rw_tallyhouse_k00_errors.prog fa fn fx xs K) (KX : K.In hp) (Gn : hp.Ns mainGlobals mg) : G.clOf mg "NoName" = some (He.ga K "NoName") := G.clOf_of (K00.ft_g_NoName c KX Gn)
theorem ft_g_NameTaken {K : PySem.W.Frag} {hp : Heap} {mg : Str → Option Value} (c : HX.SaysX PySem.Challenge.rw_tallyhouse_k00_errors.prog fa fn fx xs K) (KX : K.In hp) (Gn : hp.Ns mainGlobals mg) : mg "NameTaken" = some (.ref (He.ga K "NameTaken")) := He.glo_ok KX Gn (c.d.fact 26 (f := .glo "NameTaken") rfl)
theorem ft_cl_NameTaken {K : PySem.W.Frag} {hp : Heap} {mg : Str → Option Value} (c : HX.SaysX PySem.Challenge.rw_tallyhouse_k00_errors.prog fa fn fx xs K) (KX : K.In hp) (Gn : hp.Ns mainGlobals mg) : G.clOf mg "NameTaken" = some (He.ga K "NameTaken") := G.clOf_of (K00.ft_g_NameTaken c KX Gn)
theorem ft_g_BadName {K : PySem.W.Frag} {hp : Heap} {mg : Str → Option Value} (c : HX.SaysX PySem.Challenge.rw_tallyhouse_k00_errors.prog fa fn fx xs K) (KX : K.In hp) (Gn : hp.Ns mainGlobals mg) : mg "BadName" = some (.ref (He.ga K "BadName")) := He.glo_ok KX Gn (c.d.fact 27 (f := .glo "BadName") rfl)
theorem ft_cl_BadName {K : PySem.W.Frag} {hp : Heap} {mg : Str → Option Value} (c : HX.SaysX PySem.Challenge.rw_tallyhouse_k00_errors.prog fa fn fx xs K) (KX : K.In hp) (Gn : hp.Ns mainGlobals mg) : G.clOf mg "BadName" = some (He.ga K "BadName") := G.clOf_of (K00.ft_g_BadName c KX Gn)
theorem ft_xf_BadName_NameTaken_NoName_Unkept_Needed_name {K : PySem.W.Frag} {hp : Heap} {mg : Str → Option Value} (c : HX.SaysX PySem.Challenge.rw_tallyhouse_k00_errors.prog fa fn fx xs K) (KX : K.In hp) (Gn : hp.Ns mainGlobals mg) : ∀ c ∈ (["BadName", "NameTaken", "NoName", "Unkept", "Needed"] : List Str), ∀ C, clOf mg c = some C → XFld K C "name" := (G.xf_cons (K00.ft_cl_BadName c KX Gn) (HX.xfld_ok (c.x 22 (f := HX.xfldB "BadName" "name") rfl)) (G.xf_cons (K00.ft_cl_NameTaken c KX Gn) (HX.xfld_ok (c.x 21 (f := HX.xfldB "NameTaken" "name") rfl)) (G.xf_cons (K00.ft_cl_NoName c KX Gn) (HX.xfld_ok (c.x 20 (f := HX.xfldB "NoName" "name") rfl)) (G.xf_cons (K00.ft_cl_Unkept c KX Gn) (HX.xfld_ok (c.x 19 (f := HX.xfldB "Unkept" "name") rfl)) (G.xf_cons (K00.ft_cl_Needed c KX Gn) (HX.xfld_ok (c.x 18 (f := HX.xfldB "Needed" "name") rfl)) G.xf_nil)))))
theorem ft_g_NoPromise {K : PySem.W.Frag} {hp : Heap} {mg : Str → Option Value} (c : HX.SaysX PySem.Challenge.rw_tallyhouse_k00_errors.prog fa fn fx xs K) (KX : K.In hp) (Gn : hp.Ns mainGlobals mg) : mg "NoPromise" = some (.ref (He.ga K "NoPromise")) := He.glo_ok KX Gn (c.d.fact 28 (f := .glo "NoPromise") rfl)
theorem ft_cl_NoPromise {K : PySem.W.Frag} {hp : Heap} {mg : Str → Option Value} (c : HX.SaysX PySem.Challenge.rw_tallyhouse_k00_errors.prog fa fn fx xs K) (KX : K.In hp) (Gn : hp.Ns mainGlobals mg) : G.clOf mg "NoPromise" = some (He.ga K "NoPromise") := G.clOf_of (K00.ft_g_NoPromise c KX Gn)
theorem ft_g_BadPromise {K : PySem.W.Frag} {hp : Heap} {mg : Str → Option Value} (c : HX.SaysX PySem.Challenge.rw_tallyhouse_k00_errors.prog fa fn fx xs K) (KX : K.In hp) (Gn : hp.Ns mainGlobals mg) : mg "BadPromise" = some (.ref (He.ga K "BadPromise")) := He.glo_ok KX Gn (c.d.fact 29 (f := .glo "BadPromise") rfl)
theorem ft_cl_BadPromise {K : PySem.W.Frag} {hp : Heap} {mg : Str → Option Value} (c : HX.SaysX PySem.Challenge.rw_tallyhouse_k00_errors.prog fa fn fx xs K) (KX : K.In hp) (Gn : hp.Ns mainGlobals mg) : G.clOf mg "BadPromise" = some (He.ga K "BadPromise") := G.clOf_of (K00.ft_g_BadPromise c KX Gn)
theorem ft_xf_BadPromise_Unkept_NoPromise_promise {K : PySem.W.Frag} {hp : Heap} {mg : Str → Option Value} (c : HX.SaysX PySem.Challenge.rw_tallyhouse_k00_errors.prog fa fn fx xs K) (KX : K.In hp) (Gn : hp.Ns mainGlobals mg) : ∀ c ∈ (["BadPromise", "Unkept", "NoPromise"] : List Str), ∀ C, clOf mg c = some C → XFld K C "promise" := (G.xf_cons (K00.ft_cl_BadPromise c KX Gn) (HX.xfld_ok (c.x 25 (f := HX.xfldB "BadPromise" "promise") rfl)) (G.xf_cons (K00.ft_cl_Unkept c KX Gn) (HX.xfld_ok (c.x 24 (f := HX.xfldB "Unkept" "promise") rfl)) (G.xf_cons (K00.ft_cl_NoPromise c KX Gn) (HX.xfld_ok (c.x 23 (f := HX.xfldB "NoPromise" "promise") rfl)) G.xf_nil)))
theorem ft_g__law_borne {K : PySem.W.Frag} {hp : Heap} {mg : Str → Option Value} (c : HX.SaysX PySem.Challenge.rw_tallyhouse_k00_errors.prog fa fn fx xs K) (KX : K.In hp) (Gn : hp.Ns mainGlobals mg) : mg "_law_borne" = some (.ref (He.ga K "_law_borne")) := He.glo_ok KX Gn (c.d.fact 30 (f := .glo "_law_borne") rfl)
theorem ft_in_OtherDigits {K : PySem.W.Frag} {hp : Heap} {mg : Str → Option Value} (c : HX.SaysX PySem.Challenge.rw_tallyhouse_k00_errors.prog fa fn fx xs K) (KX : K.In hp) (Gn : hp.Ns mainGlobals mg) : IsN K (clOf mg) (.ref (He.ga K "OtherDigits")) xt_OtherDigits := HZ.kindsB_ok KX Gn (c.x 26 (f := HZ.kindsB xt_OtherDigits "OtherDigits") rfl)
theorem ft_g_OtherDigits {K : PySem.W.Frag} {hp : Heap} {mg : Str → Option Value} (c : HX.SaysX PySem.Challenge.rw_tallyhouse_k00_errors.prog fa fn fx xs K) (KX : K.In hp) (Gn : hp.Ns mainGlobals mg) : mg "OtherDigits" = some (.ref (He.ga K "OtherDigits")) := He.glo_ok KX Gn (c.d.fact 31 (f := .glo "OtherDigits") rfl)
theorem ft_m_isinstance {K : PySem.W.Frag} {hp : Heap} {mg : Str → Option Value} (c : HX.SaysX PySem.Challenge.rw_tallyhouse_k00_errors.prog fa fn fx xs K) (KX : K.In hp) (Gn : hp.Ns mainGlobals mg) : mg "isinstance" = none := He.free_ok KX Gn (c.d.fact 32 (f := .free "isinstance") rfl)
theorem ft_in_BadTicket {K : PySem.W.Frag} {hp : Heap} {mg : Str → Option Value} (c : HX.SaysX PySem.Challenge.rw_tallyhouse_k00_errors.prog fa fn fx xs K) (KX : K.In hp) (Gn : hp.Ns mainGlobals mg) : IsN K (clOf mg) (.ref (He.ga K "BadTicket")) xt_BadTicket := HZ.kindsB_ok KX Gn (c.x 27 (f := HZ.kindsB xt_BadTicket "BadTicket") rfl)
theorem ft_in_BadText {K : PySem.W.Frag} {hp : Heap} {mg : Str → Option Value} (c : HX.SaysX PySem.Challenge.rw_tallyhouse_k00_errors.prog fa fn fx xs K) (KX : K.In hp) (Gn : hp.Ns mainGlobals mg) : IsN K (clOf mg) (.ref (He.ga K "BadText")) xt_BadText := HZ.kindsB_ok KX Gn (c.x 28 (f := HZ.kindsB xt_BadText "BadText") rfl)
theorem ft_in_BadTally {K : PySem.W.Frag} {hp : Heap} {mg : Str → Option Value} (c : HX.SaysX PySem.Challenge.rw_tallyhouse_k00_errors.prog fa fn fx xs K) (KX : K.In hp) (Gn : hp.Ns mainGlobals mg) : IsN K (clOf mg) (.ref (He.ga K "BadTally")) xt_BadTally := HZ.kindsB_ok KX Gn (c.x 29 (f := HZ.kindsB xt_BadTally "BadTally") rfl)
theorem ft_in_OtherRoll {K : PySem.W.Frag} {hp : Heap} {mg : Str → Option Value} (c : HX.SaysX PySem.Challenge.rw_tallyhouse_k00_errors.prog fa fn fx xs K) (KX : K.In hp) (Gn : hp.Ns mainGlobals mg) : IsN K (clOf mg) (.ref (He.ga K "OtherRoll")) xt_OtherRoll := HZ.kindsB_ok KX Gn (c.x 30 (f := HZ.kindsB xt_OtherRoll "OtherRoll") rfl)
theorem ft_g_OtherRoll {K : PySem.W.Frag} {hp : Heap} {mg : Str → Option Value} (c : HX.SaysX PySem.Challenge.rw_tallyhouse_k00_errors.prog fa fn fx xs K) (KX : K.In hp) (Gn : hp.Ns mainGlobals mg) : mg "OtherRoll" = some (.ref (He.ga K "OtherRoll")) := He.glo_ok KX Gn (c.d.fact 33 (f := .glo "OtherRoll") rfl)
theorem ft_in_BadRewriter {K : PySem.W.Frag} {hp : Heap} {mg : Str → Option Value} (c : HX.SaysX PySem.Challenge.rw_tallyhouse_k00_errors.prog fa fn fx xs K) (KX : K.In hp) (Gn : hp.Ns mainGlobals mg) : IsN K (clOf mg) (.ref (He.ga K "BadRewriter")) xt_BadRewriter := HZ.kindsB_ok KX Gn (c.x 31 (f := HZ.kindsB xt_BadRewriter "BadRewriter") rfl)
theorem ft_in_OtherTally {K : PySem.W.Frag} {hp : Heap} {mg : Str → Option Value} (c : HX.SaysX PySem.Challenge.rw_tallyhouse_k00_errors.prog fa fn fx xs K) (KX : K.In hp) (Gn : hp.Ns mainGlobals mg) : IsN K (clOf mg) (.ref (He.ga K "OtherTally")) xt_OtherTally := HZ.kindsB_ok KX Gn (c.x 32 (f := HZ.kindsB xt_OtherTally "OtherTally") rfl)
theorem ft_g_OtherTally {K : PySem.W.Frag} {hp : Heap} {mg : Str → Option Value} (c : HX.SaysX PySem.Challenge.rw_tallyhouse_k00_errors.prog fa fn fx xs K) (KX : K.In hp) (Gn : hp.Ns mainGlobals mg) : mg "OtherTally" = some (.ref (He.ga K "OtherTally")) := He.glo_ok KX Gn (c.d.fact 34 (f := .glo "OtherTally") rfl)
theorem ft_in_BadTold {K : PySem.W.Frag} {hp : Heap} {mg : Str → Option Value} (c : HX.SaysX PySem.Challenge.rw_tallyhouse_k00_errors.prog fa fn fx xs K) (KX : K.In hp) (Gn : hp.Ns mainGlobals mg) : IsN K (clOf mg) (.ref (He.ga K "BadTold")) xt_BadTold := HZ.kindsB_ok KX Gn (c.x 33 (f := HZ.kindsB xt_BadTold "BadTold") rfl)
theorem ft_in_Unbounded {K : PySem.W.Frag} {hp : Heap} {mg : Str → Option Value} (c : HX.SaysX PySem.Challenge.rw_tallyhouse_k00_errors.prog fa fn fx xs K) (KX : K.In hp) (Gn : hp.Ns mainGlobals mg) : IsN K (clOf mg) (.ref (He.ga K "Unbounded")) xt_Unbounded := HZ.kindsB_ok KX Gn (c.x 34 (f := HZ.kindsB xt_Unbounded "Unbounded") rfl)
theorem ft_in_DoesDouble {K : PySem.W.Frag} {hp : Heap} {mg : Str → Option Value} (c : HX.SaysX PySem.Challenge.rw_tallyhouse_k00_errors.prog fa fn fx xs K) (KX : K.In hp) (Gn : hp.Ns mainGlobals mg) : IsN K (clOf mg) (.ref (He.ga K "DoesDouble")) xt_DoesDouble := HZ.kindsB_ok KX Gn (c.x 35 (f := HZ.kindsB xt_DoesDouble "DoesDouble") rfl)
theorem ft_in_BadName {K : PySem.W.Frag} {hp : Heap} {mg : Str → Option Value} (c : HX.SaysX PySem.Challenge.rw_tallyhouse_k00_errors.prog fa fn fx xs K) (KX : K.In hp) (Gn : hp.Ns mainGlobals mg) : IsN K (clOf mg) (.ref (He.ga K "BadName")) xt_BadName := HZ.kindsB_ok KX Gn (c.x 36 (f := HZ.kindsB xt_BadName "BadName") rfl)
theorem ft_in_BadDigit {K : PySem.W.Frag} {hp : Heap} {mg : Str → Option Value} (c : HX.SaysX PySem.Challenge.rw_tallyhouse_k00_errors.prog fa fn fx xs K) (KX : K.In hp) (Gn : hp.Ns mainGlobals mg) : IsN K (clOf mg) (.ref (He.ga K "BadDigit")) xt_BadDigit := HZ.kindsB_ok KX Gn (c.x 37 (f := HZ.kindsB xt_BadDigit "BadDigit") rfl)
theorem ft_in_CannotBe {K : PySem.W.Frag} {hp : Heap} {mg : Str → Option Value} (c : HX.SaysX PySem.Challenge.rw_tallyhouse_k00_errors.prog fa fn fx xs K) (KX : K.In hp) (Gn : hp.Ns mainGlobals mg) : IsN K (clOf mg) (.ref (He.ga K "CannotBe")) xt_CannotBe := HZ.kindsB_ok KX Gn (c.x 38 (f := HZ.kindsB xt_CannotBe "CannotBe") rfl)
theorem ft_in_BadPromise {K : PySem.W.Frag} {hp : Heap} {mg : Str → Option Value} (c : HX.SaysX PySem.Challenge.rw_tallyhouse_k00_errors.prog fa fn fx xs K) (KX : K.In hp) (Gn : hp.Ns mainGlobals mg) : IsN K (clOf mg) (.ref (He.ga K "BadPromise")) xt_BadPromise := HZ.kindsB_ok KX Gn (c.x 39 (f := HZ.kindsB xt_BadPromise "BadPromise") rfl)
theorem ft_in_NoName {K : PySem.W.Frag} {hp : Heap} {mg : Str → Option Value} (c : HX.SaysX PySem.Challenge.rw_tallyhouse_k00_errors.prog fa fn fx xs K) (KX : K.In hp) (Gn : hp.Ns mainGlobals mg) : IsN K (clOf mg) (.ref (He.ga K "NoName")) xt_NoName := HZ.kindsB_ok KX Gn (c.x 40 (f := HZ.kindsB xt_NoName "NoName") rfl)
theorem ft_in_NameTaken {K : PySem.W.Frag} {hp : Heap} {mg : Str → Option Value} (c : HX.SaysX PySem.Challenge.rw_tallyhouse_k00_errors.prog fa fn fx xs K) (KX : K.In hp) (Gn : hp.Ns mainGlobals mg) : IsN K (clOf mg) (.ref (He.ga K "NameTaken")) xt_NameTaken := HZ.kindsB_ok KX Gn (c.x 41 (f := HZ.kindsB xt_NameTaken "NameTaken") rfl)
theorem ft_in_Needed {K : PySem.W.Frag} {hp : Heap} {mg : Str → Option Value} (c : HX.SaysX PySem.Challenge.rw_tallyhouse_k00_errors.prog fa fn fx xs K) (KX : K.In hp) (Gn : hp.Ns mainGlobals mg) : IsN K (clOf mg) (.ref (He.ga K "Needed")) xt_Needed := HZ.kindsB_ok KX Gn (c.x 42 (f := HZ.kindsB xt_Needed "Needed") rfl)
theorem ft_in_NoPromise {K : PySem.W.Frag} {hp : Heap} {mg : Str → Option Value} (c : HX.SaysX PySem.Challenge.rw_tallyhouse_k00_errors.prog fa fn fx xs K) (KX : K.In hp) (Gn : hp.Ns mainGlobals mg) : IsN K (clOf mg) (.ref (He.ga K "NoPromise")) xt_NoPromise := HZ.kindsB_ok KX Gn (c.x 43 (f := HZ.kindsB xt_NoPromise "NoPromise") rfl)
theorem ft_in_Unkept {K : PySem.W.Frag} {hp : Heap} {mg : Str → Option Value} (c : HX.SaysX PySem.Challenge.rw_tallyhouse_k00_errors.prog fa fn fx xs K) (KX : K.In hp) (Gn : hp.Ns mainGlobals mg) : IsN K (clOf mg) (.ref (He.ga K "Unkept")) xt_Unkept := HZ.kindsB_ok KX Gn (c.x 44 (f := HZ.kindsB xt_Unkept "Unkept") rfl)
theorem ft_in_BadDeed {K : PySem.W.Frag} {hp : Heap} {mg : Str → Option Value} (c : HX.SaysX PySem.Challenge.rw_tallyhouse_k00_errors.prog fa fn fx xs K) (KX : K.In hp) (Gn : hp.Ns mainGlobals mg) : IsN K (clOf mg) (.ref (He.ga K "BadDeed")) xt_BadDeed := HZ.kindsB_ok KX Gn (c.x 45 (f := HZ.kindsB xt_BadDeed "BadDeed") rfl)
theorem ft_in_NothingToRedo {K : PySem.W.Frag} {hp : Heap} {mg : Str → Option Value} (c : HX.SaysX PySem.Challenge.rw_tallyhouse_k00_errors.prog fa fn fx xs K) (KX : K.In hp) (Gn : hp.Ns mainGlobals mg) : IsN K (clOf mg) (.ref (He.ga K "NothingToRedo")) xt_NothingToRedo := HZ.kindsB_ok KX Gn (c.x 46 (f := HZ.kindsB xt_NothingToRedo "NothingToRedo") rfl)
theorem ft_g_NothingToRedo {K : PySem.W.Frag} {hp : Heap} {mg : Str → Option Value} (c : HX.SaysX PySem.Challenge.rw_tallyhouse_k00_errors.prog fa fn fx xs K) (KX : K.In hp) (Gn : hp.Ns mainGlobals mg) : mg "NothingToRedo" = some (.ref (He.ga K "NothingToRedo")) := He.glo_ok KX Gn (c.d.fact 35 (f := .glo "NothingToRedo") rfl)
theorem ft_in_NothingToUndo {K : PySem.W.Frag} {hp : Heap} {mg : Str → Option Value} (c : HX.SaysX PySem.Challenge.rw_tallyhouse_k00_errors.prog fa fn fx xs K) (KX : K.In hp) (Gn : hp.Ns mainGlobals mg) : IsN K (clOf mg) (.ref (He.ga K "NothingToUndo")) xt_NothingToUndo := HZ.kindsB_ok KX Gn (c.x 47 (f := HZ.kindsB xt_NothingToUndo "NothingToUndo") rfl)
theorem ft_g_NothingToUndo {K : PySem.W.Frag} {hp : Heap} {mg : Str → Option Value} (c : HX.SaysX PySem.Challenge.rw_tallyhouse_k00_errors.prog fa fn fx xs K) (KX : K.In hp) (Gn : hp.Ns mainGlobals mg) : mg "NothingToUndo" = some (.ref (He.ga K "NothingToUndo")) := He.glo_ok KX Gn (c.d.fact 36 (f := .glo "NothingToUndo") rfl)
theorem ft_in_NotSold {K : PySem.W.Frag} {hp : Heap} {mg : Str → Option Value} (c : HX.SaysX PySem.Challenge.rw_tallyhouse_k00_errors.prog fa fn fx xs K) (KX : K.In hp) (Gn : hp.Ns mainGlobals mg) : IsN K (clOf mg) (.ref (He.ga K "NotSold")) xt_NotSold := HZ.kindsB_ok KX Gn (c.x 48 (f := HZ.kindsB xt_NotSold "NotSold") rfl)
theorem ft_in_SoldBefore {K : PySem.W.Frag} {hp : Heap} {mg : Str → Option Value} (c : HX.SaysX PySem.Challenge.rw_tallyhouse_k00_errors.prog fa fn fx xs K) (KX : K.In hp) (Gn : hp.Ns mainGlobals mg) : IsN K (clOf mg) (.ref (He.ga K "SoldBefore")) xt_SoldBefore := HZ.kindsB_ok KX Gn (c.x 49 (f := HZ.kindsB xt_SoldBefore "SoldBefore") rfl)
theorem ft_in_NoStretch {K : PySem.W.Frag} {hp : Heap} {mg : Str → Option Value} (c : HX.SaysX PySem.Challenge.rw_tallyhouse_k00_errors.prog fa fn fx xs K) (KX : K.In hp) (Gn : hp.Ns mainGlobals mg) : IsN K (clOf mg) (.ref (He.ga K "NoStretch")) xt_NoStretch := HZ.kindsB_ok KX Gn (c.x 50 (f := HZ.kindsB xt_NoStretch "NoStretch") rfl)
theorem ft_g_NoStretch {K : PySem.W.Frag} {hp : Heap} {mg : Str → Option Value} (c : HX.SaysX PySem.Challenge.rw_tallyhouse_k00_errors.prog fa fn fx xs K) (KX : K.In hp) (Gn : hp.Ns mainGlobals mg) : mg "NoStretch" = some (.ref (He.ga K "NoStretch")) := He.glo_ok KX Gn (c.d.fact 37 (f := .glo "NoStretch") rfl)
theorem ft_in_InvalidCommand {K : PySem.W.Frag} {hp : Heap} {mg : Str → Option Value} (c : HX.SaysX PySem.Challenge.rw_tallyhouse_k00_errors.prog fa fn fx xs K) (KX : K.In hp) (Gn : hp.Ns mainGlobals mg) : IsN K (clOf mg) (.ref (He.ga K "InvalidCommand")) xt_InvalidCommand := HZ.kindsB_ok KX Gn (c.x 51 (f := HZ.kindsB xt_InvalidCommand "InvalidCommand") rfl)
theorem ft_g_InvalidCommand {K : PySem.W.Frag} {hp : Heap} {mg : Str → Option Value} (c : HX.SaysX PySem.Challenge.rw_tallyhouse_k00_errors.prog fa fn fx xs K) (KX : K.In hp) (Gn : hp.Ns mainGlobals mg) : mg "InvalidCommand" = some (.ref (He.ga K "InvalidCommand")) := He.glo_ok KX Gn (c.d.fact 38 (f := .glo "InvalidCommand") rfl)
theorem ft_g__law_kinds {K : PySem.W.Frag} {hp : Heap} {mg : Str → Option Value} (c : HX.SaysX PySem.Challenge.rw_tallyhouse_k00_errors.prog fa fn fx xs K) (KX : K.In hp) (Gn : hp.Ns mainGlobals mg) : mg "_law_kinds" = some (.ref (He.ga K "_law_kinds")) := He.glo_ok KX Gn (c.d.fact 39 (f := .glo "_law_kinds") rfl)
theorem ft_xn_Unkept {K : PySem.W.Frag} {hp : Heap} {mg : Str → Option Value} (cz : HZ.SaysZ PySem.Challenge.rw_tallyhouse_k00_errors.prog fa fn fx xs fwrap xn K) (KX : K.In hp) (Gn : hp.Ns mainGlobals mg) : XN.ExcN PySem.Challenge.rw_tallyhouse_k00_errors.prog K mg "Unkept" xd_Unkept.qual xd_Unkept.a xd_Unkept.q xp_Unkept (He.ga K "Unkept") (He.ma K (He.ga K "Unkept") "__init__") := cz.n KX Gn 17 (d := xd_Unkept) rfl
theorem ft_xn_NoStretch {K : PySem.W.Frag} {hp : Heap} {mg : Str → Option Value} (cz : HZ.SaysZ PySem.Challenge.rw_tallyhouse_k00_errors.prog fa fn fx xs fwrap xn K) (KX : K.In hp) (Gn : hp.Ns mainGlobals mg) : XN.ExcN PySem.Challenge.rw_tallyhouse_k00_errors.prog K mg "NoStretch" xd_NoStretch.qual xd_NoStretch.a xd_NoStretch.q xp_NoStretch (He.ga K "NoStretch") (He.ma K (He.ga K "NoStretch") "__init__") := cz.n KX Gn 18 (d := xd_NoStretch) rfl
theorem ft_g__law_raised {K : PySem.W.Frag} {hp : Heap} {mg : Str → Option Value} (c : HX.SaysX PySem.Challenge.rw_tallyhouse_k00_errors.prog fa fn fx xs K) (KX : K.In hp) (Gn : hp.Ns mainGlobals mg) : mg "_law_raised" = some (.ref (He.ga K "_law_raised")) := He.glo_ok KX Gn (c.d.fact 40 (f := .glo "_law_raised") rfl)
theorem ft_g_TallyError {K : PySem.W.Frag} {hp : Heap} {mg : Str → Option Value} (c : HX.SaysX PySem.Challenge.rw_tallyhouse_k00_errors.prog fa fn fx xs K) (KX : K.In hp) (Gn : hp.Ns mainGlobals mg) : mg "TallyError" = some (.ref (He.ga K "TallyError")) := He.glo_ok KX Gn (c.d.fact 41 (f := .glo "TallyError") rfl)
theorem ft_cl_InvalidCommand {K : PySem.W.Frag} {hp : Heap} {mg : Str → Option Value} (c : HX.SaysX PySem.Challenge.rw_tallyhouse_k00_errors.prog fa fn fx xs K) (KX : K.In hp) (Gn : hp.Ns mainGlobals mg) : G.clOf mg "InvalidCommand" = some (He.ga K "InvalidCommand") := G.clOf_of (K00.ft_g_InvalidCommand c KX Gn)
theorem ft_em_InvalidCommand_TallyError {K : PySem.W.Frag} {hp : Heap} {mg : Str → Option Value} (c : HX.SaysX PySem.Challenge.rw_tallyhouse_k00_errors.prog fa fn fx xs K) (KX : K.In hp) (Gn : hp.Ns mainGlobals mg) : PySem.W.exmOne K (.ref (He.ga K "InvalidCommand")) (.ref (He.ga K "TallyError")) = some true := He.exm_ok (c.d.fact 42 (f := .exm "InvalidCommand" "TallyError" true) rfl)
theorem ft_cl_NoStretch {K : PySem.W.Frag} {hp : Heap} {mg : Str → Option Value} (c : HX.SaysX PySem.Challenge.rw_tallyhouse_k00_errors.prog fa fn fx xs K) (KX : K.In hp) (Gn : hp.Ns mainGlobals mg) : G.clOf mg "NoStretch" = some (He.ga K "NoStretch") := G.clOf_of (K00.ft_g_NoStretch c KX Gn)
theorem ft_em_NoStretch_TallyError {K : PySem.W.Frag} {hp : Heap} {mg : Str → Option Value} (c : HX.SaysX PySem.Challenge.rw_tallyhouse_k00_errors.prog fa fn fx xs K) (KX : K.In hp) (Gn : hp.Ns mainGlobals mg) : PySem.W.exmOne K (.ref (He.ga K "NoStretch")) (.ref (He.ga K "TallyError")) = some true := He.exm_ok (c.d.fact 43 (f := .exm "NoStretch" "TallyError" true) rfl)
theorem ft_cl_NothingToUndo {K : PySem.W.Frag} {hp : Heap} {mg : Str → Option Value} (c : HX.SaysX PySem.Challenge.rw_tallyhouse_k00_errors.prog fa fn fx xs K) (KX : K.In hp) (Gn : hp.Ns mainGlobals mg) : G.clOf mg "NothingToUndo" = some (He.ga K "NothingToUndo") := G.clOf_of (K00.ft_g_NothingToUndo c KX Gn)
theorem ft_em_NothingToUndo_TallyError {K : PySem.W.Frag} {hp : Heap} {mg : Str → Option Value} (c : HX.SaysX PySem.Challenge.rw_tallyhouse_k00_errors.prog fa fn fx xs K) (KX : K.In hp) (Gn : hp.Ns mainGlobals mg) : PySem.W.exmOne K (.ref (He.ga K "NothingToUndo")) (.ref (He.ga K "TallyError")) = some true := He.exm_ok (c.d.fact 44 (f := .exm "NothingToUndo" "TallyError" true) rfl)
theorem ft_em_Unkept_TallyError {K : PySem.W.Frag} {hp : Heap} {mg : Str → Option Value} (c : HX.SaysX PySem.Challenge.rw_tallyhouse_k00_errors.prog fa fn fx xs K) (KX : K.In hp) (Gn : hp.Ns mainGlobals mg) : PySem.W.exmOne K (.ref (He.ga K "Unkept")) (.ref (He.ga K "TallyError")) = some true := He.exm_ok (c.d.fact 45 (f := .exm "Unkept" "TallyError" true) rfl)
theorem ft_em_CannotBe_TallyError {K : PySem.W.Frag} {hp : Heap} {mg : Str → Option Value} (c : HX.SaysX PySem.Challenge.rw_tallyhouse_k00_errors.prog fa fn fx xs K) (KX : K.In hp) (Gn : hp.Ns mainGlobals mg) : PySem.W.exmOne K (.ref (He.ga K "CannotBe")) (.ref (He.ga K "TallyError")) = some true := He.exm_ok (c.d.fact 46 (f := .exm "CannotBe" "TallyError" true) rfl)
theorem ft_em_DoesDouble_TallyError {K : PySem.W.Frag} {hp : Heap} {mg : Str → Option Value} (c : HX.SaysX PySem.Challenge.rw_tallyhouse_k00_errors.prog fa fn fx xs K) (KX : K.In hp) (Gn : hp.Ns mainGlobals mg) : PySem.W.exmOne K (.ref (He.ga K "DoesDouble")) (.ref (He.ga K "TallyError")) = some true := He.exm_ok (c.d.fact 47 (f := .exm "DoesDouble" "TallyError" true) rfl)
theorem ft_cl_OtherDigits {K : PySem.W.Frag} {hp : Heap} {mg : Str → Option Value} (c : HX.SaysX PySem.Challenge.rw_tallyhouse_k00_errors.prog fa fn fx xs K) (KX : K.In hp) (Gn : hp.Ns mainGlobals mg) : G.clOf mg "OtherDigits" = some (He.ga K "OtherDigits") := G.clOf_of (K00.ft_g_OtherDigits c KX Gn)
theorem ft_em_OtherDigits_TallyError {K : PySem.W.Frag} {hp : Heap} {mg : Str → Option Value} (c : HX.SaysX PySem.Challenge.rw_tallyhouse_k00_errors.prog fa fn fx xs K) (KX : K.In hp) (Gn : hp.Ns mainGlobals mg) : PySem.W.exmOne K (.ref (He.ga K "OtherDigits")) (.ref (He.ga K "TallyError")) = some true := He.exm_ok (c.d.fact 48 (f := .exm "OtherDigits" "TallyError" true) rfl)
theorem ft_em_BadTicket_TallyError {K : PySem.W.Frag} {hp : Heap} {mg : Str → Option Value} (c : HX.SaysX PySem.Challenge.rw_tallyhouse_k00_errors.prog fa fn fx xs K) (KX : K.In hp) (Gn : hp.Ns mainGlobals mg) : PySem.W.exmOne K (.ref (He.ga K "BadTicket")) (.ref (He.ga K "TallyError")) = some true := He.exm_ok (c.d.fact 49 (f := .exm "BadTicket" "TallyError" true) rfl)
theorem ft_em_BadText_TallyError {K : PySem.W.Frag} {hp : Heap} {mg : Str → Option Value} (c : HX.SaysX PySem.Challenge.rw_tallyhouse_k00_errors.prog fa fn fx xs K) (KX : K.In hp) (Gn : hp.Ns mainGlobals mg) : PySem.W.exmOne K (.ref (He.ga K "BadText")) (.ref (He.ga K "TallyError")) = some true := He.exm_ok (c.d.fact 50 (f := .exm "BadText" "TallyError" true) rfl)
theorem ft_em_BadTally_TallyError {K : PySem.W.Frag} {hp : Heap} {mg : Str → Option Value} (c : HX.SaysX PySem.Challenge.rw_tallyhouse_k00_errors.prog fa fn fx xs K) (KX : K.In hp) (Gn : hp.Ns mainGlobals mg) : PySem.W.exmOne K (.ref (He.ga K "BadTally")) (.ref (He.ga K "TallyError")) = some true := He.exm_ok (c.d.fact 51 (f := .exm "BadTally" "TallyError" true) rfl)
theorem ft_g__law_caught {K : PySem.W.Frag} {hp : Heap} {mg : Str → Option Value} (c : HX.SaysX PySem.Challenge.rw_tallyhouse_k00_errors.prog fa fn fx xs K) (KX : K.In hp) (Gn : hp.Ns mainGlobals mg) : mg "_law_caught" = some (.ref (He.ga K "_law_caught")) := He.glo_ok KX Gn (c.d.fact 52 (f := .glo "_law_caught") rfl)
theorem ft_xf_Unkept_fault {K : PySem.W.Frag} {hp : Heap} {mg : Str → Option Value} (c : HX.SaysX PySem.Challenge.rw_tallyhouse_k00_errors.prog fa fn fx xs K) (KX : K.In hp) (Gn : hp.Ns mainGlobals mg) : ∀ c ∈ (["Unkept"] : List Str), ∀ C, clOf mg c = some C → XFld K C "fault" := (G.xf_cons (K00.ft_cl_Unkept c KX Gn) (HX.xfld_ok (c.x 52 (f := HX.xfldB "Unkept" "fault") rfl)) G.xf_nil)
theorem ft_sys {K : PySem.W.Frag} {hp : Heap} {mg : Str → Option Value} (c : HX.SaysX PySem.Challenge.rw_tallyhouse_k00_errors.prog fa fn fx xs K) (KX : K.In hp) (Gn : hp.Ns mainGlobals mg) : ∃ o, hp.get? sysModules = some o := HX.sys_ok KX (c.x 53 (f := HX.sysB) rfl)
theorem ft_m_repr {K : PySem.W.Frag} {hp : Heap} {mg : Str → Option Value} (c : HX.SaysX PySem.Challenge.rw_tallyhouse_k00_errors.prog fa fn fx xs K) (KX : K.In hp) (Gn : hp.Ns mainGlobals mg) : mg "repr" = none := He.free_ok KX Gn (c.d.fact 53 (f := .free "repr") rfl)
theorem ft_xn_Needed {K : PySem.W.Frag} {hp : Heap} {mg : Str → Option Value} (cz : HZ.SaysZ PySem.Challenge.rw_tallyhouse_k00_errors.prog fa fn fx xs fwrap xn K) (KX : K.In hp) (Gn : hp.Ns mainGlobals mg) : XN.ExcN PySem.Challenge.rw_tallyhouse_k00_errors.prog K mg "Needed" xd_Needed.qual xd_Needed.a xd_Needed.q xp_Needed (He.ga K "Needed") (He.ma K (He.ga K "Needed") "__init__") := cz.n KX Gn 19 (d := xd_Needed) rfl
theorem ft_xf_Needed_other {K : PySem.W.Frag} {hp : Heap} {mg : Str → Option Value} (c : HX.SaysX PySem.Challenge.rw_tallyhouse_k00_errors.prog fa fn fx xs K) (KX : K.In hp) (Gn : hp.Ns mainGlobals mg) : ∀ c ∈ (["Needed"] : List Str), ∀ C, clOf mg c = some C → XFld K C "other" := (G.xf_cons (K00.ft_cl_Needed c KX Gn) (HX.xfld_ok (c.x 54 (f := HX.xfldB "Needed" "other") rfl)) G.xf_nil)
theorem ft_xf_NoStretch_low {K : PySem.W.Frag} {hp : Heap} {mg : Str → Option Value} (c : HX.SaysX PySem.Challenge.rw_tallyhouse_k00_errors.prog fa fn fx xs K) (KX : K.In hp) (Gn : hp.Ns mainGlobals mg) : ∀ c ∈ (["NoStretch"] : List Str), ∀ C, clOf mg c = some C → XFld K C "low" := (G.xf_cons (K00.ft_cl_NoStretch c KX Gn) (HX.xfld_ok (c.x 55 (f := HX.xfldB "NoStretch" "low") rfl)) G.xf_nil)
theorem ft_xf_NoStretch_high {K : PySem.W.Frag} {hp : Heap} {mg : Str → Option Value} (c : HX.SaysX PySem.Challenge.rw_tallyhouse_k00_errors.prog fa fn fx xs K) (KX : K.In hp) (Gn : hp.Ns mainGlobals mg) : ∀ c ∈ (["NoStretch"] : List Str), ∀ C, clOf mg c = some C → XFld K C "high" := (G.xf_cons (K00.ft_cl_NoStretch c KX Gn) (HX.xfld_ok (c.x 56 (f := HX.xfldB "NoStretch" "high") rfl)) G.xf_nil)
theorem ft_g__law_wide_right {K : PySem.W.Frag} {hp : Heap} {mg : Str → Option Value} (c : HX.SaysX PySem.Challenge.rw_tallyhouse_k00_errors.prog fa fn fx xs K) (KX : K.In hp) (Gn : hp.Ns mainGlobals mg) : mg "_law_wide_right" = some (.ref (He.ga K "_law_wide_right")) := He.glo_ok KX Gn (c.d.fact 54 (f := .glo "_law_wide_right") rfl)
theorem ft_m_range {K : PySem.W.Frag} {hp : Heap} {mg : Str → Option Value} (c : HX.SaysX PySem.Challenge.rw_tallyhouse_k00_errors.prog fa fn fx xs K) (KX : K.In hp) (Gn : hp.Ns mainGlobals mg) : mg "range" = none := He.free_ok KX Gn (c.d.fact 55 (f := .free "range") rfl)
theorem ft_in_TallyError {K : PySem.W.Frag} {hp : Heap} {mg : Str → Option Value} (c : HX.SaysX PySem.Challenge.rw_tallyhouse_k00_errors.prog fa fn fx xs K) (KX : K.In hp) (Gn : hp.Ns mainGlobals mg) : IsN K (clOf mg) (.ref (He.ga K "TallyError")) xt_TallyError := HZ.kindsB_ok KX Gn (c.x 57 (f := HZ.kindsB xt_TallyError "TallyError") rfl)
theorem ft_in_Exception {K : PySem.W.Frag} {hp : Heap} {mg : Str → Option Value} (c : HX.SaysX PySem.Challenge.rw_tallyhouse_k00_errors.prog fa fn fx xs K) (KX : K.In hp) (Gn : hp.Ns mainGlobals mg) : IsN K (clOf mg) (.type "Exception") xt_TallyError := HZ.kindsT_ok KX Gn (c.x 58 (f := HZ.kindsT xt_TallyError "Exception") rfl)
theorem ft_m_Exception {K : PySem.W.Frag} {hp : Heap} {mg : Str → Option Value} (c : HX.SaysX PySem.Challenge.rw_tallyhouse_k00_errors.prog fa fn fx xs K) (KX : K.In hp) (Gn : hp.Ns mainGlobals mg) : mg "Exception" = none := He.free_ok KX Gn (c.d.fact 56 (f := .free "Exception") rfl)
theorem ft_m_set {K : PySem.W.Frag} {hp : Heap} {mg : Str → Option Value} (c : HX.SaysX PySem.Challenge.rw_tallyhouse_k00_errors.prog fa fn fx xs K) (KX : K.In hp) (Gn : hp.Ns mainGlobals mg) : mg "set" = none := He.free_ok KX Gn (c.d.fact 57 (f := .free "set") rfl)
theorem all_ok (w : World) (mg : Str → Option Value) (fad : Addr) (h : Heap) (Y : ∃ K : PySem.W.Frag, K.In h ∧ HZ.SaysZ PySem.Challenge.rw_tallyhouse_k00_errors.prog fa fn fx xs fwrap xn K) (Gn : h.Ns mainGlobals mg) (hfa : mg ("law" : Str) = some (.ref fad)) :
    ∃ (K : PySem.W.Frag) (fd : FuncData), K.In h ∧ (∀ (s : Shared) (u : Value), BindsTo s fd ⟨[u], []⟩ [(("_law_script" : Str), u)]) ∧ ∀ base : Heap, K.In base → base.Ns mainGlobals mg → FnG PySem.Challenge.rw_tallyhouse_k00_errors.prog w K mg base 5 fad fd [("_law_script" : Str)] (spL K 63) := by
  obtain ⟨K, KX, cz⟩ := Y
  have c0 := cz.z
  have c := c0.y
  obtain ⟨e__law_deck, F__law_deck⟩ := K00.fd__law_deck c
  obtain ⟨e__law_bare, F__law_bare⟩ := K00.fd__law_bare c
  obtain ⟨e__law_draw, F__law_draw⟩ := K00.fd__law_draw c
  obtain ⟨e__law_pick, F__law_pick⟩ := K00.fd__law_pick c
  obtain ⟨e__law_value, F__law_value⟩ := K00.fd__law_value c
  obtain ⟨e__law_made, F__law_made⟩ := K00.fd__law_made c
  obtain ⟨e__law_borne, F__law_borne⟩ := K00.fd__law_borne c
  obtain ⟨e__law_kinds, F__law_kinds⟩ := K00.fd__law_kinds c
  obtain ⟨e__law_raised, F__law_raised⟩ := K00.fd__law_raised c
  obtain ⟨e__law_caught, F__law_caught⟩ := K00.fd__law_caught c
  obtain ⟨e__law_wide_right, F__law_wide_right⟩ := K00.fd__law_wide_right c
  obtain ⟨e_law, F_law⟩ := K00.fd_law c
  obtain rfl : fad = He.ga K "law" := by have := hfa.symm.trans (K00.ft_g_law c KX Gn); injection this with this; injection this
  refine ⟨K, e_law, KX, K00.ba_law F_law, fun base KB GB => ?_⟩
  have m_list := (K00.ft_m_list c KX Gn)
  have m_int := (K00.ft_m_int c KX Gn)
  have k__law_deck := K00.ok__law_deck (P := PySem.Challenge.rw_tallyhouse_k00_errors.prog) (w := w) (base := base) (mg := mg) m_list m_int F__law_deck
  have b__law_deck := K00.bn__law_deck F__law_deck
  have c__law_deck : G.Ce PySem.Challenge.rw_tallyhouse_k00_errors.prog w K mg base 1 "_law_deck" ["_law_script"] K00.fn__law_deck (He.ga K "_law_deck") e__law_deck := ⟨k__law_deck, (K00.ft_g__law_deck c KX Gn), F__law_deck.kp, b__law_deck⟩
  have xo_InvalidCommand := (K00.ft_xo_InvalidCommand c KX Gn)
  have xo_NothingToRedo := (K00.ft_xo_NothingToRedo c KX Gn)
  have xo_NothingToUndo := (K00.ft_xo_NothingToUndo c KX Gn)
  have xo_OtherRoll := (K00.ft_xo_OtherRoll c KX Gn)
  have xo_OtherTally := (K00.ft_xo_OtherTally c KX Gn)
  have xo_OtherDigits := (K00.ft_xo_OtherDigits c KX Gn)
  have k__law_bare := K00.ok__law_bare (P := PySem.Challenge.rw_tallyhouse_k00_errors.prog) (w := w) (base := base) (mg := mg) xo_InvalidCommand xo_NothingToRedo xo_NothingToUndo xo_OtherRoll xo_OtherTally xo_OtherDigits F__law_bare
  have b__law_bare := K00.bn__law_bare F__law_bare
  have c__law_bare : G.CeF PySem.Challenge.rw_tallyhouse_k00_errors.prog w K mg base 1 "_law_bare" [] K00.fn__law_bare (He.ga K "_law_bare") e__law_bare := ⟨k__law_bare, (K00.ft_g__law_bare c KX Gn), F__law_bare.kp, b__law_bare⟩
  have k__law_draw := K00.ok__law_draw (P := PySem.Challenge.rw_tallyhouse_k00_errors.prog) (w := w) (base := base) (mg := mg) m_int F__law_draw
  have b__law_draw := K00.bn__law_draw F__law_draw
  have c__law_draw : G.Ce PySem.Challenge.rw_tallyhouse_k00_errors.prog w K mg base 1 "_law_draw" ["_law_deck_here", "_law_many"] K00.fn__law_draw (He.ga K "_law_draw") e__law_draw := ⟨k__law_draw, (K00.ft_g__law_draw c KX Gn), F__law_draw.kp, b__law_draw⟩
  have m_len := (K00.ft_m_len c KX Gn)
  have k__law_pick := K00.ok__law_pick (P := PySem.Challenge.rw_tallyhouse_k00_errors.prog) (w := w) (base := base) (mg := mg) c__law_draw m_len F__law_pick
  have b__law_pick := K00.bn__law_pick F__law_pick
  have c__law_pick : G.Ce PySem.Challenge.rw_tallyhouse_k00_errors.prog w K mg base 2 "_law_pick" ["_law_deck_here", "_law_some"] K00.fn__law_pick (He.ga K "_law_pick") e__law_pick := ⟨k__law_pick, (K00.ft_g__law_pick c KX Gn), F__law_pick.kp, b__law_pick⟩
  have m_str := (K00.ft_m_str c KX Gn)
  have k__law_value := K00.ok__law_value (P := PySem.Challenge.rw_tallyhouse_k00_errors.prog) (w := w) (base := base) (mg := mg) c__law_pick c__law_draw m_str F__law_value
  have b__law_value := K00.bn__law_value F__law_value
  have c__law_value : G.Ce PySem.Challenge.rw_tallyhouse_k00_errors.prog w K mg base 3 "_law_value" ["_law_deck_here"] K00.fn__law_value (He.ga K "_law_value") e__law_value := ⟨k__law_value, (K00.ft_g__law_value c KX Gn), F__law_value.kp, b__law_value⟩
  have xn_BadText := (K00.ft_xn_BadText cz KX Gn)
  have xn_BadTally := (K00.ft_xn_BadTally cz KX Gn)
  have xn_BadRewriter := (K00.ft_xn_BadRewriter cz KX Gn)
  have xn_BadTicket := (K00.ft_xn_BadTicket cz KX Gn)
  have xn_Unbounded := (K00.ft_xn_Unbounded cz KX Gn)
  have xn_DoesDouble := (K00.ft_xn_DoesDouble cz KX Gn)
  have xn_CannotBe := (K00.ft_xn_CannotBe cz KX Gn)
  have xn_BadTold := (K00.ft_xn_BadTold cz KX Gn)
  have xn_BadName := (K00.ft_xn_BadName cz KX Gn)
  have xn_BadDigit := (K00.ft_xn_BadDigit cz KX Gn)
  have xn_NoName := (K00.ft_xn_NoName cz KX Gn)
  have xn_NameTaken := (K00.ft_xn_NameTaken cz KX Gn)
  have xn_NoPromise := (K00.ft_xn_NoPromise cz KX Gn)
  have xn_BadPromise := (K00.ft_xn_BadPromise cz KX Gn)
  have xn_SoldBefore := (K00.ft_xn_SoldBefore cz KX Gn)
  have xn_BadDeed := (K00.ft_xn_BadDeed cz KX Gn)
  have xn_NotSold := (K00.ft_xn_NotSold cz KX Gn)
  have k__law_made := K00.ok__law_made (P := PySem.Challenge.rw_tallyhouse_k00_errors.prog) (w := w) (base := base) (mg := mg) xn_BadText xn_BadTally xn_BadRewriter xn_BadTicket xn_Unbounded xn_DoesDouble xn_CannotBe xn_BadTold xn_BadName xn_BadDigit xn_NoName xn_NameTaken xn_NoPromise xn_BadPromise xn_SoldBefore xn_BadDeed xn_NotSold F__law_made
  have b__law_made := K00.bn__law_made F__law_made
  have c__law_made : G.Ce PySem.Challenge.rw_tallyhouse_k00_errors.prog w K mg base 1 "_law_made" ["_law_which", "_law_a", "_law_b"] K00.fn__law_made (He.ga K "_law_made") e__law_made := ⟨k__law_made, (K00.ft_g__law_made c KX Gn), F__law_made.kp, b__law_made⟩
  have xf_BadTally_BadRewriter_part := (K00.ft_xf_BadTally_BadRewriter_part c KX Gn)
  have xf_BadText_line := (K00.ft_xf_BadText_line c KX Gn)
  have xf_BadTicket_SoldBefore_NotSold_ticket := (K00.ft_xf_BadTicket_SoldBefore_NotSold_ticket c KX Gn)
  have xf_DoesDouble_Unbounded_CannotBe_paper := (K00.ft_xf_DoesDouble_Unbounded_CannotBe_paper c KX Gn)
  have xf_BadTold_BadDeed_number := (K00.ft_xf_BadTold_BadDeed_number c KX Gn)
  have xf_BadDigit_digit := (K00.ft_xf_BadDigit_digit c KX Gn)
  have xf_BadName_NameTaken_NoName_Unkept_Needed_name := (K00.ft_xf_BadName_NameTaken_NoName_Unkept_Needed_name c KX Gn)
  have xf_BadPromise_Unkept_NoPromise_promise := (K00.ft_xf_BadPromise_Unkept_NoPromise_promise c KX Gn)
  have k__law_borne := K00.ok__law_borne (P := PySem.Challenge.rw_tallyhouse_k00_errors.prog) (w := w) (base := base) (mg := mg) xf_BadTally_BadRewriter_part xf_BadText_line xf_BadTicket_SoldBefore_NotSold_ticket xf_DoesDouble_Unbounded_CannotBe_paper xf_BadTold_BadDeed_number xf_BadDigit_digit xf_BadName_NameTaken_NoName_Unkept_Needed_name xf_BadPromise_Unkept_NoPromise_promise F__law_borne
  have b__law_borne := K00.bn__law_borne F__law_borne
  have c__law_borne : G.Ce PySem.Challenge.rw_tallyhouse_k00_errors.prog w K mg base 1 "_law_borne" ["_law_it", "_law_mark"] K00.fn__law_borne (He.ga K "_law_borne") e__law_borne := ⟨k__law_borne, (K00.ft_g__law_borne c KX Gn), F__law_borne.kp, b__law_borne⟩
  have in_OtherDigits := (K00.ft_in_OtherDigits c KX Gn)
  have g_OtherDigits := (K00.ft_g_OtherDigits c KX Gn)
  have m_isinstance := (K00.ft_m_isinstance c KX Gn)
  have in_BadTicket := (K00.ft_in_BadTicket c KX Gn)
  have g_BadTicket := (K00.ft_g_BadTicket c KX Gn)
  have in_BadText := (K00.ft_in_BadText c KX Gn)
  have g_BadText := (K00.ft_g_BadText c KX Gn)
  have in_BadTally := (K00.ft_in_BadTally c KX Gn)
  have g_BadTally := (K00.ft_g_BadTally c KX Gn)
  have in_OtherRoll := (K00.ft_in_OtherRoll c KX Gn)
  have g_OtherRoll := (K00.ft_g_OtherRoll c KX Gn)
  have in_BadRewriter := (K00.ft_in_BadRewriter c KX Gn)
  have g_BadRewriter := (K00.ft_g_BadRewriter c KX Gn)
  have in_OtherTally := (K00.ft_in_OtherTally c KX Gn)
  have g_OtherTally := (K00.ft_g_OtherTally c KX Gn)
  have in_BadTold := (K00.ft_in_BadTold c KX Gn)
  have g_BadTold := (K00.ft_g_BadTold c KX Gn)
  have in_Unbounded := (K00.ft_in_Unbounded c KX Gn)
  have g_Unbounded := (K00.ft_g_Unbounded c KX Gn)
  have in_DoesDouble := (K00.ft_in_DoesDouble c KX Gn)
  have g_DoesDouble := (K00.ft_g_DoesDouble c KX Gn)
  have in_BadName := (K00.ft_in_BadName c KX Gn)
  have g_BadName := (K00.ft_g_BadName c KX Gn)
  have in_BadDigit := (K00.ft_in_BadDigit c KX Gn)
  have g_BadDigit := (K00.ft_g_BadDigit c KX Gn)
  have in_CannotBe := (K00.ft_in_CannotBe c KX Gn)
  have g_CannotBe := (K00.ft_g_CannotBe c KX Gn)
  have in_BadPromise := (K00.ft_in_BadPromise c KX Gn)
  have g_BadPromise := (K00.ft_g_BadPromise c KX Gn)
  have in_NoName := (K00.ft_in_NoName c KX Gn)
  have g_NoName := (K00.ft_g_NoName c KX Gn)
  have in_NameTaken := (K00.ft_in_NameTaken c KX Gn)
  have g_NameTaken := (K00.ft_g_NameTaken c KX Gn)
  have in_Needed := (K00.ft_in_Needed c KX Gn)
  have g_Needed := (K00.ft_g_Needed c KX Gn)
  have in_NoPromise := (K00.ft_in_NoPromise c KX Gn)
  have g_NoPromise := (K00.ft_g_NoPromise c KX Gn)
  have in_Unkept := (K00.ft_in_Unkept c KX Gn)
  have g_Unkept := (K00.ft_g_Unkept c KX Gn)
  have in_BadDeed := (K00.ft_in_BadDeed c KX Gn)
  have g_BadDeed := (K00.ft_g_BadDeed c KX Gn)
  have in_NothingToRedo := (K00.ft_in_NothingToRedo c KX Gn)
  have g_NothingToRedo := (K00.ft_g_NothingToRedo c KX Gn)
  have in_NothingToUndo := (K00.ft_in_NothingToUndo c KX Gn)
  have g_NothingToUndo := (K00.ft_g_NothingToUndo c KX Gn)
  have in_NotSold := (K00.ft_in_NotSold c KX Gn)
  have g_NotSold := (K00.ft_g_NotSold c KX Gn)
  have in_SoldBefore := (K00.ft_in_SoldBefore c KX Gn)
  have g_SoldBefore := (K00.ft_g_SoldBefore c KX Gn)
  have in_NoStretch := (K00.ft_in_NoStretch c KX Gn)
  have g_NoStretch := (K00.ft_g_NoStretch c KX Gn)
  have in_InvalidCommand := (K00.ft_in_InvalidCommand c KX Gn)
  have g_InvalidCommand := (K00.ft_g_InvalidCommand c KX Gn)
  have k__law_kinds := K00.ok__law_kinds (P := PySem.Challenge.rw_tallyhouse_k00_errors.prog) (w := w) (base := base) (mg := mg) in_OtherDigits g_OtherDigits m_isinstance in_BadTicket g_BadTicket in_BadText g_BadText in_BadTally g_BadTally in_OtherRoll g_OtherRoll in_BadRewriter g_BadRewriter in_OtherTally g_OtherTally in_BadTold g_BadTold in_Unbounded g_Unbounded in_DoesDouble g_DoesDouble in_BadName g_BadName in_BadDigit g_BadDigit in_CannotBe g_CannotBe in_BadPromise g_BadPromise in_NoName g_NoName in_NameTaken g_NameTaken in_Needed g_Needed in_NoPromise g_NoPromise in_Unkept g_Unkept in_BadDeed g_BadDeed in_NothingToRedo g_NothingToRedo in_NothingToUndo g_NothingToUndo in_NotSold g_NotSold in_SoldBefore g_SoldBefore in_NoStretch g_NoStretch in_InvalidCommand g_InvalidCommand F__law_kinds
  have b__law_kinds := K00.bn__law_kinds F__law_kinds
  have cq__law_kinds : G.CeQ PySem.Challenge.rw_tallyhouse_k00_errors.prog w K mg base 1 "_law_kinds" ["_law_it"] K00.fn__law_kinds (He.ga K "_law_kinds") e__law_kinds := ⟨K00.okq__law_kinds (P := PySem.Challenge.rw_tallyhouse_k00_errors.prog) (w := w) (base := base) (mg := mg) in_OtherDigits g_OtherDigits m_isinstance in_BadTicket g_BadTicket in_BadText g_BadText in_BadTally g_BadTally in_OtherRoll g_OtherRoll in_BadRewriter g_BadRewriter in_OtherTally g_OtherTally in_BadTold g_BadTold in_Unbounded g_Unbounded in_DoesDouble g_DoesDouble in_BadName g_BadName in_BadDigit g_BadDigit in_CannotBe g_CannotBe in_BadPromise g_BadPromise in_NoName g_NoName in_NameTaken g_NameTaken in_Needed g_Needed in_NoPromise g_NoPromise in_Unkept g_Unkept in_BadDeed g_BadDeed in_NothingToRedo g_NothingToRedo in_NothingToUndo g_NothingToUndo in_NotSold g_NotSold in_SoldBefore g_SoldBefore in_NoStretch g_NoStretch in_InvalidCommand g_InvalidCommand F__law_kinds, (K00.ft_g__law_kinds c KX Gn), F__law_kinds.kp, b__law_kinds⟩
  have c__law_kinds : G.Ce PySem.Challenge.rw_tallyhouse_k00_errors.prog w K mg base 1 "_law_kinds" ["_law_it"] K00.fn__law_kinds (He.ga K "_law_kinds") e__law_kinds := ⟨k__law_kinds, (K00.ft_g__law_kinds c KX Gn), F__law_kinds.kp, b__law_kinds⟩
  have xn_Unkept := (K00.ft_xn_Unkept cz KX Gn)
  have xn_NoStretch := (K00.ft_xn_NoStretch cz KX Gn)
  have k__law_raised := K00.ok__law_raised (P := PySem.Challenge.rw_tallyhouse_k00_errors.prog) (w := w) (base := base) (mg := mg) xn_BadTally xn_BadText xn_BadTicket xo_OtherDigits xn_DoesDouble xn_CannotBe xn_Unkept xo_NothingToUndo xn_NoStretch xo_InvalidCommand F__law_raised
  have b__law_raised := K00.bn__law_raised F__law_raised
  have c__law_raised : G.Ce PySem.Challenge.rw_tallyhouse_k00_errors.prog w K mg base 1 "_law_raised" ["_law_which", "_law_a"] K00.fn__law_raised (He.ga K "_law_raised") e__law_raised := ⟨k__law_raised, (K00.ft_g__law_raised c KX Gn), F__law_raised.kp, b__law_raised⟩
  have g_TallyError := (K00.ft_g_TallyError c KX Gn)
  have cl_InvalidCommand := (K00.ft_cl_InvalidCommand c KX Gn)
  have em_InvalidCommand_TallyError := (K00.ft_em_InvalidCommand_TallyError c KX Gn)
  have cl_NoStretch := (K00.ft_cl_NoStretch c KX Gn)
  have em_NoStretch_TallyError := (K00.ft_em_NoStretch_TallyError c KX Gn)
  have cl_NothingToUndo := (K00.ft_cl_NothingToUndo c KX Gn)
  have em_NothingToUndo_TallyError := (K00.ft_em_NothingToUndo_TallyError c KX Gn)
  have cl_Unkept := (K00.ft_cl_Unkept c KX Gn)
  have em_Unkept_TallyError := (K00.ft_em_Unkept_TallyError c KX Gn)
  have cl_CannotBe := (K00.ft_cl_CannotBe c KX Gn)
  have em_CannotBe_TallyError := (K00.ft_em_CannotBe_TallyError c KX Gn)
  have cl_DoesDouble := (K00.ft_cl_DoesDouble c KX Gn)
  have em_DoesDouble_TallyError := (K00.ft_em_DoesDouble_TallyError c KX Gn)
  have cl_OtherDigits := (K00.ft_cl_OtherDigits c KX Gn)
  have em_OtherDigits_TallyError := (K00.ft_em_OtherDigits_TallyError c KX Gn)
  have cl_BadTicket := (K00.ft_cl_BadTicket c KX Gn)
  have em_BadTicket_TallyError := (K00.ft_em_BadTicket_TallyError c KX Gn)
  have cl_BadText := (K00.ft_cl_BadText c KX Gn)
  have em_BadText_TallyError := (K00.ft_em_BadText_TallyError c KX Gn)
  have cl_BadTally := (K00.ft_cl_BadTally c KX Gn)
  have em_BadTally_TallyError := (K00.ft_em_BadTally_TallyError c KX Gn)
  have k__law_caught := K00.ok__law_caught (P := PySem.Challenge.rw_tallyhouse_k00_errors.prog) (w := w) (base := base) (mg := mg) c__law_raised c__law_kinds cq__law_kinds g_TallyError cl_InvalidCommand em_InvalidCommand_TallyError cl_NoStretch em_NoStretch_TallyError cl_NothingToUndo em_NothingToUndo_TallyError cl_Unkept em_Unkept_TallyError cl_CannotBe em_CannotBe_TallyError cl_DoesDouble em_DoesDouble_TallyError cl_OtherDigits em_OtherDigits_TallyError cl_BadTicket em_BadTicket_TallyError cl_BadText em_BadText_TallyError cl_BadTally em_BadTally_TallyError F__law_caught
  have b__law_caught := K00.bn__law_caught F__law_caught
  have c__law_caught : G.Ce PySem.Challenge.rw_tallyhouse_k00_errors.prog w K mg base 2 "_law_caught" ["_law_which", "_law_a"] K00.fn__law_caught (He.ga K "_law_caught") e__law_caught := ⟨k__law_caught, (K00.ft_g__law_caught c KX Gn), F__law_caught.kp, b__law_caught⟩
  have xf_Unkept_fault := (K00.ft_xf_Unkept_fault c KX Gn)
  have sys := (K00.ft_sys c KB GB)
  have m_repr := (K00.ft_m_repr c KX Gn)
  have xn_Needed := (K00.ft_xn_Needed cz KX Gn)
  have xf_Needed_other := (K00.ft_xf_Needed_other c KX Gn)
  have xf_NoStretch_low := (K00.ft_xf_NoStretch_low c KX Gn)
  have xf_NoStretch_high := (K00.ft_xf_NoStretch_high c KX Gn)
  have k__law_wide_right := K00.ok__law_wide_right (P := PySem.Challenge.rw_tallyhouse_k00_errors.prog) (w := w) (base := base) (mg := mg) c__law_value xn_Unkept xf_BadPromise_Unkept_NoPromise_promise xf_BadName_NameTaken_NoName_Unkept_Needed_name xf_Unkept_fault sys m_repr xn_Needed xf_Needed_other xn_NoStretch xf_NoStretch_low xf_NoStretch_high c__law_kinds F__law_wide_right
  have b__law_wide_right := K00.bn__law_wide_right F__law_wide_right
  have c__law_wide_right : G.Ce PySem.Challenge.rw_tallyhouse_k00_errors.prog w K mg base 4 "_law_wide_right" ["_law_deck_here"] K00.fn__law_wide_right (He.ga K "_law_wide_right") e__law_wide_right := ⟨k__law_wide_right, (K00.ft_g__law_wide_right c KX Gn), F__law_wide_right.kp, b__law_wide_right⟩
  have m_range := (K00.ft_m_range c KX Gn)
  have in_TallyError := (K00.ft_in_TallyError c KX Gn)
  have in_Exception := (K00.ft_in_Exception c KX Gn)
  have m_Exception := (K00.ft_m_Exception c KX Gn)
  have m_set := (K00.ft_m_set c KX Gn)
  exact K00.ok_law c__law_deck c__law_bare m_range c__law_value c__law_made c__law_borne sys m_repr c__law_kinds in_TallyError g_TallyError m_isinstance in_Exception m_Exception c__law_caught m_len m_set c__law_wide_right F_law K00.plain
end K00
open PySem PySem.W PySem.Calls PyProof.Rows
theorem PySem.Challenge.cw_tallyhouse_k00_errors_holds : PySem.Challenge.rw_tallyhouse_k00_errors.Holds := by
  refine K00.y_on fun said => ?_
  w_on
  refine HandSHeadRun.head_any (r := OpenLaw.row PySem.Challenge.rw_tallyhouse_k00_errors) (q := view (OpenLaw.row PySem.Challenge.rw_tallyhouse_k00_errors).prog [40]) (H := K00.hk) (ob := K00.ob) (M := 20000) (loose := K00.names) (d := HandSHeadRun.topDef (OpenLaw.row PySem.Challenge.rw_tallyhouse_k00_errors).prog 40) (kwd := []) K00.ob_eq
    K00.y_open K00.y_fence K00.run K00.y_def K00.y_the K00.y_kw (by rfl) said K00.y_ok K00.y_bare ?hw ?hc
  case hw => w_witness2
  case hc =>
    refine G.walk_ofG (l := PySem.Challenge.rw_tallyhouse_k00_errors) (n := 63) (k := 5) (x := "_law_script") rfl (by decide) (by kernel_rfl) ⟨rfl, by decide, by decide⟩ ?F
    intro w mg fad h Y Gn hfa
    exact K00.all_ok w mg fad h Y Gn hfa
