import PyProof.Rows.All
import HandS.HeadHook2
import KE.KExcInit
import HandS.Exc
import HandS.Defaults
import HandS.Words
import HandS.Gcd
import PySem.Challenge.RW_creepclocks_k00_errors_by_themselves
import KE.KStateDown
import HandS.Head0
import HandS.Head1
import HandS.Head2
import HandS.HeadEnd
import HandS.HeadWalk
import Wide.All
import OpenK.AllK
import Wide.FinOn
import HandS.ForMost
import HandS.ExcOwn
import HandS.WordsExc
import HandS.CallSlots
import HandS.IsInst
import HandS.Wide
import HandS.Walk
import HandS.TupAny
import HandS.Zip
import HandS.Rev
import HandS.Comp
import HandS.More
import HandS.FStr
import HandS.StrMore
import HandS.WideBits
import HandS.TupMul
import KE.KExcIs
import HandS.ExcInit
import HandS.MakeKwOnly
set_option Elab.async false
set_option linter.all false
set_option maxRecDepth 100000
set_option maxHeartbeats 4000000
namespace Sim
open PySem PySem.Spec PyProof.Rows L2
abbrev Frag := PySem.W.Frag
inductive Bs where
  | ve | ae | le | ie
deriving DecidableEq
def Bs.bm : Bs → List Value
  | .ve => [.type "ValueError", .type "Exception", .type "BaseException", .type "object"]
  | .ae => [.type "ArithmeticError", .type "Exception", .type "BaseException", .type "object"]
  | .le => [.type "LookupError", .type "Exception", .type "BaseException", .type "object"]
  | .ie => [.type "IndexError", .type "LookupError", .type "Exception", .type "BaseException", .type "object"]
def Bs.new : Bs → String
  | .ve => "ValueError.__new__"
  | .ae => "ArithmeticError.__new__"
  | .le => "LookupError.__new__"
  | .ie => "IndexError.__new__"
/-- an exception class at a, over the base b: its fields' names ns -/
def exB (K : Frag) (a : Addr) (b : Bs) (ns : List Str) : Bool :=
  PySem.W.excInitIn K a b.bm b.new && (PySem.W.excOver K a b.bm && (PySem.W.hasDictIn K a && (PySem.W.keepIn K (.ref a) && ((PySem.W.clsIn K a).isSome &&
  (decide (PySem.W.findIn K (.ref a) "__setattr__" = some (some (.builtin "object.__setattr__"))) &&
  (decide (PySem.W.findIn K (.ref a) "__getattribute__" = some (some (.builtin "BaseException.__getattribute__"))) &&
  (decide (PySem.W.findIn K (.ref a) "__getattr__" = some none) &&
  (decide (PySem.W.subIn K (.ref a) (.type "BaseException") = some true) &&
  (decide (PySem.W.findIn K (.ref a) "__class__" = some (some (.builtin "object.__class__"))) &&
  (decide (PySem.W.mroIn K a (.type "object") = some true) &&
  (decide (PySem.W.findIn K (.ref a) "__init__" = some (some (.ref (He.ma K a "__init__")))) &&
  (decide (PySem.W.typeIn K (.ref (He.ma K a "__init__")) = some (.type "function")) &&
  (ns.all fun f => decide (PySem.W.findIn K (.ref a) f = some none))))))))))))))
/-- isinstance of these classes' instances: own classes, built-in ones -/
def incr : List Nat → Bool
  | a :: b :: r => decide (a < b) && incr (b :: r)
  | _ => true
def isTabB (K : Frag) (ancO : Str → List Str) (ancT : Str → List String) (leafs owns : List Str) : Bool :=
  (leafs.all fun C => decide ((PySem.W.clsIn K (He.ga K C)).map (·.mro) = some ((ancO C).map (fun A => Value.ref (He.ga K A)) ++ (ancT C).map Value.type))) &&
  ((owns.all fun T => (PySem.W.clsIn K (He.ga K T)).isSome && decide (PySem.W.typeIn K (.ref (He.ga K T)) = some (.type "type"))) && incr (owns.map (He.ga K)))
/-! ### the objects that are looked at -/
def fnR (o : Obj) : List Addr := match o.data with
  | .func fd => refVs fd.code ++ (refVs fd.defaults ++ refVs fd.kwdefaults)
  | _ => []
where refVs : Value → List Addr
  | .ref a => [a]
  | _ => []
def r1 (g : Addr → Option Obj) (a : Addr) : List Addr := match g a with
  | some o => (match o.data with
    | .cls cd => cd.ns :: (match g cd.ns with
      | some n => (match n.data with
        | .dict es _ => es.toList.flatMap fun e => (match e.val with
          | .ref f => f :: (match g f with
            | some fo => fnR fo
            | none => [])
          | _ => [])
        | _ => [])
      | none => [])
    | _ => fnR o)
  | none => []
def asL (g : Addr → Option Obj) : List Addr := match g mainGlobals with
  | some o => (match o.data with
    | .dict es _ => mainGlobals :: es.toList.flatMap fun e => (match e.val with
      | .ref a => a :: r1 g a
      | _ => [])
    | _ => [])
  | none => []
/-! ### the Hook: defs, facts, Bools of our own -/
abbrev AlS : Type := He.AlD × Bool
def obsS (fa : List He.Fa) (fn : List He.DefD) (xs : List (Frag → Bool)) (K : Frag) : AlS := (He.obsD fa fn K, xs.all fun f => f K)
def SaysS (fa : List He.Fa) (fn : List He.DefD) (xs : List (Frag → Bool)) (K : Frag) : Prop := obsS fa fn xs K = (He.valD fn, true)
def obsSG (fa : List He.Fa) (fn : List He.DefD) (xs : List (Frag → Bool)) (g : Addr → Option Obj) : AlS := obsS fa fn xs (He.frG g (asL g))
def hookS (fa : List He.Fa) (fn : List He.DefD) (xs : List (Frag → Bool)) : PySem.W.Hook where
  α := AlS
  obs := fun s => obsSG fa fn xs s.heap.get?
  val := fun _ => (He.valD fn, true)
  says := fun _ h => ∃ K : PySem.W.Frag, K.In h ∧ SaysS fa fn xs K
  of := fun _ _ e => ⟨_, He.frG_in, e⟩
  keeps := fun _ _ _ ⟨K, hK, c⟩ k => ⟨K, PySem.W.Frag.In.keeps hK k, c⟩
theorem obsSG_eq {fa : List He.Fa} {fn : List He.DefD} {xs : List (Frag → Bool)} {g : Addr → Option Obj} {s : Shared} (h : ∀ a, g a = s.heap.get? a) : obsSG fa fn xs g = (hookS fa fn xs).obs s := by
  have e : g = s.heap.get? := funext h
  rw [e] <;> rfl
end Sim

set_option Elab.async false
set_option linter.all false
set_option maxRecDepth 100000
set_option maxHeartbeats 4000000

namespace K00
open PySem PySem.Spec PyProof.Rows L2 Sim
def top (i : Nat) : Stmt := PySem.Challenge.pw_creepclocks_k00_errors_by_themselves.main.body.getD i (.Pass ⟨0, 0, 0, 0⟩)
def inCls (s : Stmt) (j : Nat) : Stmt := match s with
  | .ClassDef _ _ _ body _ _ _ _ _ _ _ => body.getD j (.Pass ⟨0, 0, 0, 0⟩)
  | s => s
abbrev D__law_bag : Nat := 0
abbrev D__law_draw : Nat := 1
abbrev D__law_of : Nat := 2
abbrev D__law_like : Nat := 3
abbrev D__law_words : Nat := 4
abbrev D__law_due : Nat := 5
abbrev D__law_thing : Nat := 6
abbrev D__law_copied : Nat := 7
abbrev D__law_first : Nat := 8
abbrev D__law_second : Nat := 9
abbrev D__law_both : Nat := 10
abbrev D__law_bare : Nat := 11
abbrev D__law_told : Nat := 12
abbrev D__law_kinds : Nat := 13
abbrev D__law_kinds_too : Nat := 14
abbrev D__law_made : Nat := 15
abbrev D__law_so : Nat := 16
abbrev D_law : Nat := 17
abbrev DI_InvalidNumber : Nat := 18
abbrev DI_InvalidFraction : Nat := 19
abbrev DI_InvalidOrder : Nat := 20
abbrev DI_InvalidPlace : Nat := 21
abbrev DI_InvalidPower : Nat := 22
abbrev DI_InvalidTimes : Nat := 23
abbrev DI_InvalidText : Nat := 24
abbrev DI_InvalidTable : Nat := 25
abbrev DI_NotSlow : Nat := 26
abbrev DI_NotOne : Nat := 27
abbrev DI_IsStill : Nat := 28
abbrev DI_NotAFlow : Nat := 29
abbrev DI_InvalidFlat : Nat := 30
abbrev DI_NotAlike : Nat := 31
abbrev DI_InvalidLead : Nat := 32
abbrev DI_InvalidTime : Nat := 33
abbrev DI_InvalidTop : Nat := 34
abbrev DI_NotInFamily : Nat := 35
abbrev DI_NotFolded : Nat := 36
abbrev DI_InvalidFar : Nat := 37
abbrev DI_NotFar : Nat := 38
abbrev DI_NotLed : Nat := 39
abbrev DI_NotInCrew : Nat := 40
abbrev DI_InvalidName : Nat := 41
abbrev DI_InvalidNames : Nat := 42
abbrev DI_InvalidWord : Nat := 43
abbrev DI_SameName : Nat := 44
abbrev DI_InvalidPaper : Nat := 45
abbrev DI_InvalidDeed : Nat := 46
abbrev DI_InvalidLine : Nat := 47
abbrev DI_TooMany : Nat := 48
abbrev DI_Tied : Nat := 49
abbrev DI_UnknownName : Nat := 50
abbrev DI_UnknownStep : Nat := 51
abbrev DI_OrderTooLow : Nat := 52
abbrev DI_UnlikeOrders : Nat := 53
abbrev DI_NotUnit : Nat := 54
abbrev DI_NotATable : Nat := 55
abbrev DI_UnlikeFlats : Nat := 56
abbrev DI_NotSquare : Nat := 57
abbrev DI_CantTurn : Nat := 58
abbrev DI_DividedByZero : Nat := 59
abbrev DI_NotAClock : Nat := 60
abbrev DI_NoFlips : Nat := 61
abbrev DI_InCrew : Nat := 62
abbrev DI_NotOpen : Nat := 63
abbrev DI_InvalidStep : Nat := 64
abbrev DI_Solved : Nat := 65
abbrev DI_NothingLeft : Nat := 66
def fn0 : List (He.DefD) := [⟨("_law_bag", none), "_law_bag", "_law_bag", defArgs (top 54), defBody (top 54), defScope (top 54), [], []⟩,
  ⟨("_law_draw", none), "_law_draw", "_law_draw", defArgs (top 55), defBody (top 55), defScope (top 55), [], []⟩,
  ⟨("_law_of", none), "_law_of", "_law_of", defArgs (top 56), defBody (top 56), defScope (top 56), [], []⟩,
  ⟨("_law_like", none), "_law_like", "_law_like", defArgs (top 57), defBody (top 57), defScope (top 57), [], []⟩,
  ⟨("_law_words", none), "_law_words", "_law_words", defArgs (top 65), defBody (top 65), defScope (top 65), [], []⟩,
  ⟨("_law_due", none), "_law_due", "_law_due", defArgs (top 66), defBody (top 66), defScope (top 66), [], []⟩,
  ⟨("_law_thing", none), "_law_thing", "_law_thing", defArgs (top 67), defBody (top 67), defScope (top 67), [], []⟩,
  ⟨("_law_copied", none), "_law_copied", "_law_copied", defArgs (top 68), defBody (top 68), defScope (top 68), [], []⟩,
  ⟨("_law_first", none), "_law_first", "_law_first", defArgs (top 58), defBody (top 58), defScope (top 58), [], []⟩,
  ⟨("_law_second", none), "_law_second", "_law_second", defArgs (top 59), defBody (top 59), defScope (top 59), [], []⟩,
  ⟨("_law_both", none), "_law_both", "_law_both", defArgs (top 60), defBody (top 60), defScope (top 60), [], []⟩,
  ⟨("_law_bare", none), "_law_bare", "_law_bare", defArgs (top 61), defBody (top 61), defScope (top 61), [], []⟩]
def fn1 : List (He.DefD) := [⟨("_law_told", none), "_law_told", "_law_told", defArgs (top 62), defBody (top 62), defScope (top 62), [], []⟩,
  ⟨("_law_kinds", none), "_law_kinds", "_law_kinds", defArgs (top 63), defBody (top 63), defScope (top 63), [], []⟩,
  ⟨("_law_kinds_too", none), "_law_kinds_too", "_law_kinds_too", defArgs (top 64), defBody (top 64), defScope (top 64), [], []⟩,
  ⟨("_law_made", none), "_law_made", "_law_made", defArgs (top 69), defBody (top 69), defScope (top 69), [], []⟩,
  ⟨("_law_so", none), "_law_so", "_law_so", defArgs (top 70), defBody (top 70), defScope (top 70), [], []⟩,
  ⟨("law", none), "law", "law", defArgs (top 71), defBody (top 71), defScope (top 71), [], []⟩,
  ⟨("InvalidNumber", some "__init__"), "__init__", "InvalidNumber.__init__", defArgs (inCls (top 4) 0), defBody (inCls (top 4) 0), defScope (inCls (top 4) 0), [], []⟩,
  ⟨("InvalidFraction", some "__init__"), "__init__", "InvalidFraction.__init__", defArgs (inCls (top 5) 0), defBody (inCls (top 5) 0), defScope (inCls (top 5) 0), [], []⟩,
  ⟨("InvalidOrder", some "__init__"), "__init__", "InvalidOrder.__init__", defArgs (inCls (top 6) 0), defBody (inCls (top 6) 0), defScope (inCls (top 6) 0), [], []⟩,
  ⟨("InvalidPlace", some "__init__"), "__init__", "InvalidPlace.__init__", defArgs (inCls (top 9) 0), defBody (inCls (top 9) 0), defScope (inCls (top 9) 0), [], []⟩,
  ⟨("InvalidPower", some "__init__"), "__init__", "InvalidPower.__init__", defArgs (inCls (top 10) 0), defBody (inCls (top 10) 0), defScope (inCls (top 10) 0), [], []⟩,
  ⟨("InvalidTimes", some "__init__"), "__init__", "InvalidTimes.__init__", defArgs (inCls (top 11) 0), defBody (inCls (top 11) 0), defScope (inCls (top 11) 0), [], []⟩]
def fn2 : List (He.DefD) := [⟨("InvalidText", some "__init__"), "__init__", "InvalidText.__init__", defArgs (inCls (top 12) 0), defBody (inCls (top 12) 0), defScope (inCls (top 12) 0), [], []⟩,
  ⟨("InvalidTable", some "__init__"), "__init__", "InvalidTable.__init__", defArgs (inCls (top 13) 0), defBody (inCls (top 13) 0), defScope (inCls (top 13) 0), [], []⟩,
  ⟨("NotSlow", some "__init__"), "__init__", "NotSlow.__init__", defArgs (inCls (top 15) 0), defBody (inCls (top 15) 0), defScope (inCls (top 15) 0), [], []⟩,
  ⟨("NotOne", some "__init__"), "__init__", "NotOne.__init__", defArgs (inCls (top 17) 0), defBody (inCls (top 17) 0), defScope (inCls (top 17) 0), [], []⟩,
  ⟨("IsStill", some "__init__"), "__init__", "IsStill.__init__", defArgs (inCls (top 16) 0), defBody (inCls (top 16) 0), defScope (inCls (top 16) 0), [], []⟩,
  ⟨("NotAFlow", some "__init__"), "__init__", "NotAFlow.__init__", defArgs (inCls (top 20) 0), defBody (inCls (top 20) 0), defScope (inCls (top 20) 0), [], []⟩,
  ⟨("InvalidFlat", some "__init__"), "__init__", "InvalidFlat.__init__", defArgs (inCls (top 21) 0), defBody (inCls (top 21) 0), defScope (inCls (top 21) 0), [], []⟩,
  ⟨("NotAlike", some "__init__"), "__init__", "NotAlike.__init__", defArgs (inCls (top 24) 0), defBody (inCls (top 24) 0), defScope (inCls (top 24) 0), [], []⟩,
  ⟨("InvalidLead", some "__init__"), "__init__", "InvalidLead.__init__", defArgs (inCls (top 25) 0), defBody (inCls (top 25) 0), defScope (inCls (top 25) 0), [], []⟩,
  ⟨("InvalidTime", some "__init__"), "__init__", "InvalidTime.__init__", defArgs (inCls (top 26) 0), defBody (inCls (top 26) 0), defScope (inCls (top 26) 0), [], []⟩,
  ⟨("InvalidTop", some "__init__"), "__init__", "InvalidTop.__init__", defArgs (inCls (top 27) 0), defBody (inCls (top 27) 0), defScope (inCls (top 27) 0), [], []⟩,
  ⟨("NotInFamily", some "__init__"), "__init__", "NotInFamily.__init__", defArgs (inCls (top 28) 0), defBody (inCls (top 28) 0), defScope (inCls (top 28) 0), [], []⟩]
def fn3 : List (He.DefD) := [⟨("NotFolded", some "__init__"), "__init__", "NotFolded.__init__", defArgs (inCls (top 30) 0), defBody (inCls (top 30) 0), defScope (inCls (top 30) 0), [], []⟩,
  ⟨("InvalidFar", some "__init__"), "__init__", "InvalidFar.__init__", defArgs (inCls (top 31) 0), defBody (inCls (top 31) 0), defScope (inCls (top 31) 0), [], []⟩,
  ⟨("NotFar", some "__init__"), "__init__", "NotFar.__init__", defArgs (inCls (top 32) 0), defBody (inCls (top 32) 0), defScope (inCls (top 32) 0), [], []⟩,
  ⟨("NotLed", some "__init__"), "__init__", "NotLed.__init__", defArgs (inCls (top 33) 0), defBody (inCls (top 33) 0), defScope (inCls (top 33) 0), [], []⟩,
  ⟨("NotInCrew", some "__init__"), "__init__", "NotInCrew.__init__", defArgs (inCls (top 34) 0), defBody (inCls (top 34) 0), defScope (inCls (top 34) 0), [], []⟩,
  ⟨("InvalidName", some "__init__"), "__init__", "InvalidName.__init__", defArgs (inCls (top 36) 0), defBody (inCls (top 36) 0), defScope (inCls (top 36) 0), [], []⟩,
  ⟨("InvalidNames", some "__init__"), "__init__", "InvalidNames.__init__", defArgs (inCls (top 37) 0), defBody (inCls (top 37) 0), defScope (inCls (top 37) 0), [], []⟩,
  ⟨("InvalidWord", some "__init__"), "__init__", "InvalidWord.__init__", defArgs (inCls (top 38) 0), defBody (inCls (top 38) 0), defScope (inCls (top 38) 0), [], []⟩,
  ⟨("SameName", some "__init__"), "__init__", "SameName.__init__", defArgs (inCls (top 39) 0), defBody (inCls (top 39) 0), defScope (inCls (top 39) 0), [], []⟩,
  ⟨("InvalidPaper", some "__init__"), "__init__", "InvalidPaper.__init__", defArgs (inCls (top 42) 0), defBody (inCls (top 42) 0), defScope (inCls (top 42) 0), [], []⟩,
  ⟨("InvalidDeed", some "__init__"), "__init__", "InvalidDeed.__init__", defArgs (inCls (top 43) 0), defBody (inCls (top 43) 0), defScope (inCls (top 43) 0), [], []⟩,
  ⟨("InvalidLine", some "__init__"), "__init__", "InvalidLine.__init__", defArgs (inCls (top 44) 0), defBody (inCls (top 44) 0), defScope (inCls (top 44) 0), [], []⟩]
def fn4 : List (He.DefD) := [⟨("TooMany", some "__init__"), "__init__", "TooMany.__init__", defArgs (inCls (top 45) 0), defBody (inCls (top 45) 0), defScope (inCls (top 45) 0), [], []⟩,
  ⟨("Tied", some "__init__"), "__init__", "Tied.__init__", defArgs (inCls (top 48) 0), defBody (inCls (top 48) 0), defScope (inCls (top 48) 0), [], []⟩,
  ⟨("UnknownName", some "__init__"), "__init__", "UnknownName.__init__", defArgs (inCls (top 50) 0), defBody (inCls (top 50) 0), defScope (inCls (top 50) 0), [], []⟩,
  ⟨("UnknownStep", some "__init__"), "__init__", "UnknownStep.__init__", defArgs (inCls (top 51) 0), defBody (inCls (top 51) 0), defScope (inCls (top 51) 0), [], []⟩,
  ⟨("OrderTooLow", some "__init__"), "__init__", "OrderTooLow.__init__", defArgs (inCls (top 7) 0), defBody (inCls (top 7) 0), defScope (inCls (top 7) 0), [], []⟩,
  ⟨("UnlikeOrders", some "__init__"), "__init__", "UnlikeOrders.__init__", defArgs (inCls (top 8) 0), defBody (inCls (top 8) 0), defScope (inCls (top 8) 0), [], []⟩,
  ⟨("NotUnit", some "__init__"), "__init__", "NotUnit.__init__", defArgs (inCls (top 18) 0), defBody (inCls (top 18) 0), defScope (inCls (top 18) 0), [], []⟩,
  ⟨("NotATable", some "__init__"), "__init__", "NotATable.__init__", defArgs (inCls (top 19) 0), defBody (inCls (top 19) 0), defScope (inCls (top 19) 0), [], []⟩,
  ⟨("UnlikeFlats", some "__init__"), "__init__", "UnlikeFlats.__init__", defArgs (inCls (top 23) 0), defBody (inCls (top 23) 0), defScope (inCls (top 23) 0), [], []⟩,
  ⟨("NotSquare", some "__init__"), "__init__", "NotSquare.__init__", defArgs (inCls (top 49) 0), defBody (inCls (top 49) 0), defScope (inCls (top 49) 0), [], []⟩,
  ⟨("CantTurn", some "__init__"), "__init__", "CantTurn.__init__", defArgs (inCls (top 14) 0), defBody (inCls (top 14) 0), defScope (inCls (top 14) 0), [], []⟩,
  ⟨("DividedByZero", some "__init__"), "__init__", "DividedByZero.__init__", defArgs (inCls (top 47) 0), defBody (inCls (top 47) 0), defScope (inCls (top 47) 0), [], []⟩]
def fn5 : List (He.DefD) := [⟨("NotAClock", some "__init__"), "__init__", "NotAClock.__init__", defArgs (inCls (top 22) 0), defBody (inCls (top 22) 0), defScope (inCls (top 22) 0), [], []⟩,
  ⟨("NoFlips", some "__init__"), "__init__", "NoFlips.__init__", defArgs (inCls (top 29) 0), defBody (inCls (top 29) 0), defScope (inCls (top 29) 0), [], []⟩,
  ⟨("InCrew", some "__init__"), "__init__", "InCrew.__init__", defArgs (inCls (top 35) 0), defBody (inCls (top 35) 0), defScope (inCls (top 35) 0), [], []⟩,
  ⟨("NotOpen", some "__init__"), "__init__", "NotOpen.__init__", defArgs (inCls (top 40) 0), defBody (inCls (top 40) 0), defScope (inCls (top 40) 0), [], []⟩,
  ⟨("InvalidStep", some "__init__"), "__init__", "InvalidStep.__init__", defArgs (inCls (top 41) 0), defBody (inCls (top 41) 0), defScope (inCls (top 41) 0), [], []⟩,
  ⟨("Solved", some "__init__"), "__init__", "Solved.__init__", defArgs (inCls (top 46) 0), defBody (inCls (top 46) 0), defScope (inCls (top 46) 0), [], []⟩,
  ⟨("NothingLeft", some "__init__"), "__init__", "NothingLeft.__init__", defArgs (inCls (top 52) 0), defBody (inCls (top 52) 0), defScope (inCls (top 52) 0), [], []⟩]
def fn : List (He.DefD) := fn0 ++ fn1 ++ fn2 ++ fn3 ++ fn4 ++ fn5
def gnames0 : List (Str) := ["_law_bag",
  "_law_draw",
  "_law_of",
  "_law_like",
  "_law_words",
  "_law_due",
  "_law_thing",
  "_law_copied",
  "_law_first",
  "_law_second",
  "_law_both",
  "_law_bare",
  "_law_told",
  "_law_kinds",
  "_law_kinds_too",
  "_law_made",
  "_law_so",
  "law",
  "CantTurn",
  "CreepError",
  "DividedByZero",
  "InCrew",
  "InvalidDeed",
  "InvalidFar",
  "InvalidFlat",
  "InvalidFraction",
  "InvalidLead",
  "InvalidLine",
  "InvalidName",
  "InvalidNames"]
def gnames1 : List (Str) := ["InvalidNumber",
  "InvalidOrder",
  "InvalidPaper",
  "InvalidPlace",
  "InvalidPower",
  "InvalidStep",
  "InvalidTable",
  "InvalidText",
  "InvalidTime",
  "InvalidTimes",
  "InvalidTop",
  "InvalidWord",
  "IsStill",
  "Missing",
  "NoAnswer",
  "NoFlips",
  "NotAClock",
  "NotAFlow",
  "NotATable",
  "NotAlike",
  "NotFar",
  "NotFolded",
  "NotInCrew",
  "NotInFamily",
  "NotLed",
  "NotOne",
  "NotOpen",
  "NotSlow",
  "NotSquare",
  "NotUnit"]
def gnames2 : List (Str) := ["NothingLeft",
  "OrderTooLow",
  "SameName",
  "Solved",
  "Tied",
  "TooMany",
  "UnknownName",
  "UnknownStep",
  "UnlikeFlats",
  "UnlikeOrders"]
def gnames : List (Str) := gnames0 ++ gnames1 ++ gnames2
def fnames0 : List (Str) := ["ArithmeticError",
  "IndexError",
  "KeyError",
  "LookupError",
  "ValueError",
  "ZeroDivisionError",
  "all",
  "bool",
  "int",
  "isinstance",
  "len",
  "list",
  "range",
  "str",
  "tuple",
  "zip"]
def fnames : List (Str) := fnames0
def fa : List He.Fa := gnames.map .glo ++ fnames.map .free
def leafs0 : List (Str) := ["InvalidNumber",
  "InvalidFraction",
  "InvalidOrder",
  "InvalidPlace",
  "InvalidPower",
  "InvalidTimes",
  "InvalidText",
  "InvalidTable",
  "NotSlow",
  "NotOne",
  "IsStill",
  "NotAFlow",
  "InvalidFlat",
  "NotAlike",
  "InvalidLead",
  "InvalidTime",
  "InvalidTop",
  "NotInFamily",
  "NotFolded",
  "InvalidFar",
  "NotFar",
  "NotLed",
  "NotInCrew",
  "InvalidName",
  "InvalidNames",
  "InvalidWord",
  "SameName",
  "InvalidPaper",
  "InvalidDeed",
  "InvalidLine"]
def leafs1 : List (Str) := ["TooMany",
  "Tied",
  "UnknownName",
  "UnknownStep",
  "OrderTooLow",
  "UnlikeOrders",
  "NotUnit",
  "NotATable",
  "UnlikeFlats",
  "NotSquare",
  "CantTurn",
  "DividedByZero",
  "NotAClock",
  "NoFlips",
  "InCrew",
  "NotOpen",
  "InvalidStep",
  "Solved",
  "NothingLeft"]
def leafs : List (Str) := leafs0 ++ leafs1
def owns0 : List (Str) := ["CreepError",
  "NoAnswer",
  "Missing",
  "InvalidNumber",
  "InvalidFraction",
  "InvalidOrder",
  "OrderTooLow",
  "UnlikeOrders",
  "InvalidPlace",
  "InvalidPower",
  "InvalidTimes",
  "InvalidText",
  "InvalidTable",
  "CantTurn",
  "NotSlow",
  "IsStill",
  "NotOne",
  "NotUnit",
  "NotATable",
  "NotAFlow",
  "InvalidFlat",
  "NotAClock",
  "UnlikeFlats",
  "NotAlike",
  "InvalidLead",
  "InvalidTime",
  "InvalidTop",
  "NotInFamily",
  "NoFlips",
  "NotFolded"]
def owns1 : List (Str) := ["InvalidFar",
  "NotFar",
  "NotLed",
  "NotInCrew",
  "InCrew",
  "InvalidName",
  "InvalidNames",
  "InvalidWord",
  "SameName",
  "NotOpen",
  "InvalidStep",
  "InvalidPaper",
  "InvalidDeed",
  "InvalidLine",
  "TooMany",
  "Solved",
  "DividedByZero",
  "Tied",
  "NotSquare",
  "UnknownName",
  "UnknownStep",
  "NothingLeft"]
def owns : List (Str) := owns0 ++ owns1
def ancL0 : List (Str × List Str × List String) := [("InvalidNumber", ["InvalidNumber", "CreepError"], ["ValueError", "Exception", "BaseException", "object"]),
  ("InvalidFraction", ["InvalidFraction", "CreepError"], ["ValueError", "Exception", "BaseException", "object"]),
  ("InvalidOrder", ["InvalidOrder", "CreepError"], ["ValueError", "Exception", "BaseException", "object"]),
  ("InvalidPlace", ["InvalidPlace", "CreepError"], ["ValueError", "Exception", "BaseException", "object"]),
  ("InvalidPower", ["InvalidPower", "CreepError"], ["ValueError", "Exception", "BaseException", "object"]),
  ("InvalidTimes", ["InvalidTimes", "CreepError"], ["ValueError", "Exception", "BaseException", "object"]),
  ("InvalidText", ["InvalidText", "CreepError"], ["ValueError", "Exception", "BaseException", "object"]),
  ("InvalidTable", ["InvalidTable", "CreepError"], ["ValueError", "Exception", "BaseException", "object"]),
  ("NotSlow", ["NotSlow", "CreepError"], ["ValueError", "Exception", "BaseException", "object"]),
  ("NotOne", ["NotOne", "CreepError"], ["ValueError", "Exception", "BaseException", "object"])]
def ancL1 : List (Str × List Str × List String) := [("IsStill", ["IsStill", "CreepError"], ["ValueError", "Exception", "BaseException", "object"]),
  ("NotAFlow", ["NotAFlow", "CreepError"], ["ValueError", "Exception", "BaseException", "object"]),
  ("InvalidFlat", ["InvalidFlat", "CreepError"], ["ValueError", "Exception", "BaseException", "object"]),
  ("NotAlike", ["NotAlike", "CreepError"], ["ValueError", "Exception", "BaseException", "object"]),
  ("InvalidLead", ["InvalidLead", "CreepError"], ["ValueError", "Exception", "BaseException", "object"]),
  ("InvalidTime", ["InvalidTime", "CreepError"], ["ValueError", "Exception", "BaseException", "object"]),
  ("InvalidTop", ["InvalidTop", "CreepError"], ["ValueError", "Exception", "BaseException", "object"]),
  ("NotInFamily", ["NotInFamily", "CreepError"], ["ValueError", "Exception", "BaseException", "object"]),
  ("NotFolded", ["NotFolded", "CreepError"], ["ValueError", "Exception", "BaseException", "object"]),
  ("InvalidFar", ["InvalidFar", "CreepError"], ["ValueError", "Exception", "BaseException", "object"])]
def ancL2 : List (Str × List Str × List String) := [("NotFar", ["NotFar", "CreepError"], ["ValueError", "Exception", "BaseException", "object"]),
  ("NotLed", ["NotLed", "CreepError"], ["ValueError", "Exception", "BaseException", "object"]),
  ("NotInCrew", ["NotInCrew", "CreepError"], ["ValueError", "Exception", "BaseException", "object"]),
  ("InvalidName", ["InvalidName", "CreepError"], ["ValueError", "Exception", "BaseException", "object"]),
  ("InvalidNames", ["InvalidNames", "CreepError"], ["ValueError", "Exception", "BaseException", "object"]),
  ("InvalidWord", ["InvalidWord", "CreepError"], ["ValueError", "Exception", "BaseException", "object"]),
  ("SameName", ["SameName", "CreepError"], ["ValueError", "Exception", "BaseException", "object"]),
  ("InvalidPaper", ["InvalidPaper", "CreepError"], ["ValueError", "Exception", "BaseException", "object"]),
  ("InvalidDeed", ["InvalidDeed", "CreepError"], ["ValueError", "Exception", "BaseException", "object"]),
  ("InvalidLine", ["InvalidLine", "CreepError"], ["ValueError", "Exception", "BaseException", "object"])]
def ancL3 : List (Str × List Str × List String) := [("TooMany", ["TooMany", "CreepError"], ["ValueError", "Exception", "BaseException", "object"]),
  ("Tied", ["Tied", "NoAnswer"], ["ArithmeticError", "Exception", "BaseException", "object"]),
  ("UnknownName", ["UnknownName", "Missing"], ["LookupError", "Exception", "BaseException", "object"]),
  ("UnknownStep", ["UnknownStep", "Missing"], ["LookupError", "Exception", "BaseException", "object"]),
  ("OrderTooLow", ["OrderTooLow", "CreepError"], ["ValueError", "Exception", "BaseException", "object"]),
  ("UnlikeOrders", ["UnlikeOrders", "CreepError"], ["ValueError", "Exception", "BaseException", "object"]),
  ("NotUnit", ["NotUnit", "CreepError"], ["ValueError", "Exception", "BaseException", "object"]),
  ("NotATable", ["NotATable", "CreepError"], ["ValueError", "Exception", "BaseException", "object"]),
  ("UnlikeFlats", ["UnlikeFlats", "CreepError"], ["ValueError", "Exception", "BaseException", "object"]),
  ("NotSquare", ["NotSquare", "NoAnswer"], ["ArithmeticError", "Exception", "BaseException", "object"])]
def ancL4 : List (Str × List Str × List String) := [("CantTurn", ["CantTurn", "CreepError"], ["ValueError", "Exception", "BaseException", "object"]),
  ("DividedByZero", ["DividedByZero", "NoAnswer"], ["ArithmeticError", "Exception", "BaseException", "object"]),
  ("NotAClock", ["NotAClock", "CreepError"], ["ValueError", "Exception", "BaseException", "object"]),
  ("NoFlips", ["NoFlips", "CreepError"], ["ValueError", "Exception", "BaseException", "object"]),
  ("InCrew", ["InCrew", "CreepError"], ["ValueError", "Exception", "BaseException", "object"]),
  ("NotOpen", ["NotOpen", "CreepError"], ["ValueError", "Exception", "BaseException", "object"]),
  ("InvalidStep", ["InvalidStep", "CreepError"], ["ValueError", "Exception", "BaseException", "object"]),
  ("Solved", ["Solved", "CreepError"], ["ValueError", "Exception", "BaseException", "object"]),
  ("NothingLeft", ["NothingLeft"], ["IndexError", "LookupError", "Exception", "BaseException", "object"])]
def ancL : List (Str × List Str × List String) := ancL0 ++ ancL1 ++ ancL2 ++ ancL3 ++ ancL4
def ancO (C : Str) : List Str := match ancL.lookup C with
  | some p => p.1
  | none => []
def ancT (C : Str) : List String := match ancL.lookup C with
  | some p => p.2
  | none => []
theorem anc_ok : ∀ C ∈ leafs, C ∈ ancO C ∧ ∀ A ∈ ancO C, A ∈ owns := by
  have h : (leafs.all fun C => (ancO C).contains C && (ancO C).all fun A => owns.contains A) = true := by decide +kernel
  intro C hC
  have z := List.all_eq_true.mp h C hC
  obtain ⟨h1, h2⟩ := Bool.and_eq_true_iff.mp z
  exact ⟨by simpa using h1, fun A hA => by simpa using List.all_eq_true.mp h2 A hA⟩
def exL0 : List (Str × Bs × List Str) := [("InvalidNumber", .ve, ["code", "value"]),
  ("InvalidFraction", .ve, ["code", "at"]),
  ("InvalidOrder", .ve, ["code", "value"]),
  ("InvalidPlace", .ve, ["code", "value"]),
  ("InvalidPower", .ve, ["code", "value"]),
  ("InvalidTimes", .ve, ["code", "value"]),
  ("InvalidText", .ve, ["code", "at"]),
  ("InvalidTable", .ve, ["code", "at"]),
  ("NotSlow", .ve, ["code", "first"]),
  ("NotOne", .ve, ["code", "first"]),
  ("IsStill", .ve, ["code", "have"]),
  ("NotAFlow", .ve, ["code", "place"]),
  ("InvalidFlat", .ve, ["code", "value"]),
  ("NotAlike", .ve, ["code", "paper"]),
  ("InvalidLead", .ve, ["code", "value"]),
  ("InvalidTime", .ve, ["code", "value"]),
  ("InvalidTop", .ve, ["code", "at"]),
  ("NotInFamily", .ve, ["code", "place"]),
  ("NotFolded", .ve, ["code", "value"]),
  ("InvalidFar", .ve, ["code", "at"])]
def exL1 : List (Str × Bs × List Str) := [("NotFar", .ve, ["code", "place"]),
  ("NotLed", .ve, ["code", "first"]),
  ("NotInCrew", .ve, ["code", "paper"]),
  ("InvalidName", .ve, ["code", "value"]),
  ("InvalidNames", .ve, ["code", "at"]),
  ("InvalidWord", .ve, ["code", "at"]),
  ("SameName", .ve, ["code", "name"]),
  ("InvalidPaper", .ve, ["code", "at"]),
  ("InvalidDeed", .ve, ["code", "at"]),
  ("InvalidLine", .ve, ["code", "line"]),
  ("TooMany", .ve, ["code", "most"]),
  ("Tied", .ae, ["code", "ties"]),
  ("UnknownName", .le, ["code", "name"]),
  ("UnknownStep", .le, ["code", "at"]),
  ("OrderTooLow", .ve, ["code", "wanted", "have"]),
  ("UnlikeOrders", .ve, ["code", "other", "one"]),
  ("NotUnit", .ve, ["code", "place", "line"]),
  ("NotATable", .ve, ["code", "place", "line"]),
  ("UnlikeFlats", .ve, ["code", "other", "one"]),
  ("NotSquare", .ae, ["code", "unknowns", "equations"])]
def exL2 : List (Str × Bs × List Str) := [("CantTurn", .ve, ["code"]),
  ("DividedByZero", .ae, ["code"]),
  ("NotAClock", .ve, ["code"]),
  ("NoFlips", .ve, ["code"]),
  ("InCrew", .ve, ["code"]),
  ("NotOpen", .ve, ["code"]),
  ("InvalidStep", .ve, ["code"]),
  ("Solved", .ve, ["code"]),
  ("NothingLeft", .ie, ["code"])]
def exL : List (Str × Bs × List Str) := exL0 ++ exL1 ++ exL2
def xs : List (Frag → Bool) := [fun K => isTabB K ancO ancT leafs owns, fun K => exL.all fun e => exB K (He.ga K e.1) e.2.1 e.2.2]
end K00

set_option Elab.async false
set_option linter.all false
set_option maxRecDepth 100000
set_option maxHeartbeats 4000000
namespace K00
open PySem PySem.Spec PyProof.Rows L2 Sim
abbrev R : PySem.W.OpenRow := PySem.W.OpenLaw.row PySem.Challenge.rw_creepclocks_k00_errors_by_themselves
abbrev qv : Program := PySem.W.view R.prog [71]
def hnames0 : List (Str) := ["CreepError",
  "NoAnswer",
  "Missing",
  "InvalidNumber",
  "InvalidFraction",
  "InvalidOrder",
  "OrderTooLow",
  "UnlikeOrders",
  "InvalidPlace",
  "InvalidPower",
  "InvalidTimes",
  "InvalidText",
  "InvalidTable",
  "CantTurn",
  "NotSlow",
  "IsStill",
  "NotOne",
  "NotUnit",
  "NotATable",
  "NotAFlow",
  "InvalidFlat",
  "NotAClock",
  "UnlikeFlats",
  "NotAlike",
  "InvalidLead",
  "InvalidTime",
  "InvalidTop",
  "NotInFamily",
  "NoFlips",
  "NotFolded"]
def hnames1 : List (Str) := ["InvalidFar",
  "NotFar",
  "NotLed",
  "NotInCrew",
  "InCrew",
  "InvalidName",
  "InvalidNames",
  "InvalidWord",
  "SameName",
  "NotOpen",
  "InvalidStep",
  "InvalidPaper",
  "InvalidDeed",
  "InvalidLine",
  "TooMany",
  "Solved",
  "DividedByZero",
  "Tied",
  "NotSquare",
  "UnknownName",
  "UnknownStep",
  "NothingLeft",
  "_law_bag",
  "_law_draw",
  "_law_of",
  "_law_like",
  "_law_first",
  "_law_second",
  "_law_both",
  "_law_bare"]
def hnames2 : List (Str) := ["_law_told",
  "_law_kinds",
  "_law_kinds_too",
  "_law_words",
  "_law_due",
  "_law_thing",
  "_law_copied",
  "_law_made",
  "_law_so"]
def hnames : List (Str) := hnames0 ++ hnames1 ++ hnames2

abbrev hk : PySem.W.Hook := hookS fa fn xs
def ob (s : PySem.W.SharedT) : AlS := obsSG fa fn xs (HandSHeadRun.getT s)
theorem ob_eq (s : PySem.W.SharedT) : ob s = hk.obs s.abs := obsSG_eq (HandSHeadRun.getT_eq s)
def ob1 (s : PySem.W.SharedT) : He.AlD := He.obsD fa fn (He.frG (HandSHeadRun.getT s) (asL (HandSHeadRun.getT s)))
def ob2 (s : PySem.W.SharedT) : Bool := xs.all fun f => f (He.frG (HandSHeadRun.getT s) (asL (HandSHeadRun.getT s)))
open PySem.W PySem.Calls HandSHeadRun
noncomputable abbrev T (w : World) (os : OsState) := endF (stepQ (denQ tabQ) R.prog w) 16000 R.prog w os
theorem run0 (w : World) (os : OsState) : (T w os).map (fun s => (looksF R.prog (boot_heap w.params) s.abs, seenQ qv hnames (importedModules R.prog.main.body) (fun s => xlAt qv [] s && recOk R.toRowW.records s) s.abs)) = some (true, openGood qv hnames) := by
  kernel_rfl
theorem run1 (w : World) (os : OsState) : (T w os).map ob1 = some (He.valD fn) := by
  kernel_rfl
theorem run2 (w : World) (os : OsState) : (T w os).map ob2 = some true := by
  kernel_rfl
theorem run (w : World) : HandSHeadRun.RunEq R qv hk ob 16000 hnames w := by
  intro os
  have h0 := run0 w os
  have h1 := run1 w os
  have h2 := run2 w os
  have key : ∀ {α β γ δ : Type} {r : Option α} {f : α → β × γ} {g1 : α → He.AlD} {g2 : α → Bool} {b : β} {c : γ} {d1 : He.AlD} {d2 : Bool}, r.map f = some (b, c) → r.map g1 = some d1 → r.map g2 = some d2 → r.map (fun s => ((f s).1, (f s).2, (g1 s, g2 s))) = some (b, c, (d1, d2)) := by
    intro α β γ δ r f g1 g2 b c d1 d2 h0 h1 h2
    cases r with
    | none => cases h0
    | some s =>
      simp only [Option.map_some, Option.some.injEq] at h0 h1 h2 ⊢
      rw [h0, h1, h2]
  exact key (δ := Unit) h0 h1 h2
end K00

set_option Elab.async false
set_option linter.all false
set_option maxRecDepth 100000
set_option maxHeartbeats 4000000
/-! data, stores, what represents them -/
namespace Sim
open PySem PySem.Spec PyProof.Rows L2

/-- data by value; ref: an object of the store -/
inductive D where
  | non | bl (b : Bool) | int (i : Int) | str (s : Str) | ty (n : String)
  | tup (ds : List D) | lst (ds : List D) | ins (C : Str) (fs : List (Str × D))
  | ref (n : Nat)
  /-- the script -/
  | scr (ds : List D)
inductive O where
  | lst (ds : List D) | ins (C : Str) (fs : List (Str × D))
abbrev Sto := List (Option O)
structure Exn where
  cls : Str
  fs : List (Str × D)
inductive Res (α : Type) where
  | ok (a : α) (st : Sto) | exc (x : Exn) (st : Sto) | bad
@[simp] def Res.bind {α β : Type} (r : Res α) (f : α → Sto → Res β) : Res β := match r with
  | .ok a st => f a st
  | .exc x st => .exc x st
  | .bad => .bad
/-- where we stand: real addresses of the store's objects, the store, the abstract heap -/
structure Wd where
  mu : List Addr
  st : Sto
  H : Hp
  /-- lists that are just being made: nothing leads there -/
  op : List Addr
def Live (w : Wd) (a : Addr) : Prop := ∃ (n : Nat) (o : O), w.mu[n]? = some a ∧ w.st[n]? = some (some o)
/-- at a: an exception of the class at C, its dict at dx -/
def xo (a C dx : Addr) : HO := .ext fun h => ∃ (o : Obj) (vs : Array Value), h.get? a = some o ∧ o.cls = .ref C ∧ o.dict = some dx ∧ o.data = .fields vs
/-- what the written part says of a class of the program whose instances are plain objects, fs their fields -/
structure InsC (K : Frag) (C : Str) (fs : List (Str × D)) : Prop where
  cls : Cls K (He.ga K C)
  cn : PySem.W.findIn K (.ref (He.ga K C)) "__class__" = some (some (.builtin "object.__class__"))
  gt : PySem.W.specialIn K (.builtin "object.__class__") "__get__" = some (some (.builtin "getset_descriptor.__get__"))
  tk : PySem.W.takesIn K (.builtin "object.__class__") = some true
  ob : PySem.W.mroIn K (He.ga K C) (.type "object") = some true
  no : ∀ f, fs.lookup f ≠ none → PySem.W.findIn K (.ref (He.ga K C)) f = some none
/-- of an exception class -/
structure ExcC (K : Frag) (C : Str) (fs : List (Str × D)) : Prop where
  cl : (PySem.W.clsIn K (He.ga K C)).isSome = true
  ga : PySem.W.findIn K (.ref (He.ga K C)) "__getattribute__" = some (some (.builtin "BaseException.__getattribute__"))
  gg : PySem.W.findIn K (.ref (He.ga K C)) "__getattr__" = some none
  exC : PySem.W.subIn K (.ref (He.ga K C)) (.type "BaseException") = some true
  hdC : PySem.W.hasDictIn K (He.ga K C) = true
  cn : PySem.W.findIn K (.ref (He.ga K C)) "__class__" = some (some (.builtin "object.__class__"))
  gt : PySem.W.specialIn K (.builtin "object.__class__") "__get__" = some (some (.builtin "getset_descriptor.__get__"))
  tk : PySem.W.takesIn K (.builtin "object.__class__") = some true
  ob : PySem.W.mroIn K (He.ga K C) (.type "object") = some true
  no : ∀ f, fs.lookup f ≠ none → PySem.W.findIn K (.ref (He.ga K C)) f = some none

mutual
inductive Rep (K : Frag) (w : Wd) : V → D → Prop where
  | non : Rep K w .non .non
  | bl (b : Bool) : Rep K w (.bl b) (.bl b)
  | int (i : Int) : Rep K w (.int i) (.int i)
  | str (s : Str) : Rep K w (.str s) (.str s)
  | ty (n : String) : Rep K w (.ty n) (.ty n)
  | tup {a : Addr} {vs : List V} {ds : List D} (h : Rd w.H a (.tup vs)) (ho : a ∉ w.op) (hs : Reps K w vs ds) : Rep K w (.ref a) (.tup ds)
  | ktup {a : Addr} {vs : List V} {ds : List D} (h : ∀ H, SqT K H a vs) (hs : Reps K w vs ds) : Rep K w (.ref a) (.tup ds)
  | lst {a : Addr} {vs : List V} {ds : List D} (h : w.H a = some (.lst vs)) (hl : ¬ Live w a) (ho : a ∉ w.op) (hs : Reps K w vs ds) : Rep K w (.ref a) (.lst ds)
  | scr {a : Addr} {o : Obj} {vs : List V} {ds : List D} (h : w.H a = some (.frz o (.lst vs))) (hl : ¬ Live w a) (ho : a ∉ w.op) (hs : Reps K w vs ds) : Rep K w (.ref a) (.scr ds)
  | kscr {a : Addr} {vs : List V} {ds : List D} (h : ∀ H, SqL K H a vs) (ht : ∃ o, K.lookup a = some o ∧ o.cls = .type "list") (hs : Reps K w vs ds) : Rep K w (.ref a) (.scr ds)
  | ins {a dx : Addr} {C : Str} {fv : List (Str × V)} {fs : List (Str × D)} (h : w.H a = some (.ins (He.ga K C) dx fv)) (hl : ¬ Live w a) (ho : a ∉ w.op) (hs : RepF K w fv fs) (hc : InsC K C fs) : Rep K w (.ref a) (.ins C fs)
  | exo {a dx : Addr} {C : Str} {fv : List (Str × V)} {fs : List (Str × D)} (h : w.H a = some (xo a (He.ga K C) dx)) (h2 : w.H dx = some (.xd fv)) (hl : ¬ Live w a) (hl2 : ¬ Live w dx) (ho : a ∉ w.op) (ho2 : dx ∉ w.op) (hs : RepF K w fv fs) (hc : ExcC K C fs) : Rep K w (.ref a) (.ins C fs)
  | ref {a : Addr} {n : Nat} (h : w.mu[n]? = some a) : Rep K w (.ref a) (.ref n)
inductive Reps (K : Frag) (w : Wd) : List V → List D → Prop where
  | nil : Reps K w [] []
  | cons {v : V} {d : D} {vs : List V} {ds : List D} (h : Rep K w v d) (t : Reps K w vs ds) : Reps K w (v :: vs) (d :: ds)
inductive RepF (K : Frag) (w : Wd) : List (Str × V) → List (Str × D) → Prop where
  | nil : RepF K w [] []
  | cons {x : Str} {v : V} {d : D} {vs : List (Str × V)} {ds : List (Str × D)} (h : Rep K w v d) (t : RepF K w vs ds) : RepF K w ((x, v) :: vs) ((x, d) :: ds)
end
def RepO (K : Frag) (w : Wd) (a : Addr) : O → Prop
  | .lst ds => ∃ vs, w.H a = some (.lst vs) ∧ Reps K w vs ds
  | .ins C fs => ∃ dx fv, w.H a = some (.ins (He.ga K C) dx fv) ∧ RepF K w fv fs ∧ InsC K C fs
structure Ok (K : Frag) (w : Wd) : Prop where
  len : w.mu.length = w.st.length
  nd : w.mu.Nodup
  has : ∀ a ∈ w.mu, ∃ o, w.H a = some o
  opn : ∀ a ∈ w.op, a ∉ w.mu ∧ w.H a ≠ none
  obj : ∀ (n : Nat) (a : Addr) (o : O), w.mu[n]? = some a → w.st[n]? = some (some o) → RepO K w a o
structure Step (w w' : Wd) : Prop where
  ext : ∃ ν, w'.mu = w.mu ++ ν ∧ ∀ a ∈ ν, w.H a = none
  keep : ∀ a o, w.H a = some o → ¬ Live w a → w'.H a = some o
  dead : ∀ n : Nat, w.st[n]? = some none → w'.st[n]? = some none
  len : w.st.length ≤ w'.st.length
  has : ∀ a, w.H a ≠ none → w'.H a ≠ none
  op : ∃ l, w'.op = l ++ w.op ∧ ∀ a ∈ l, w.H a = none

theorem Step.refl (w : Wd) : Step w w := ⟨⟨[], by simp, by simp⟩, fun _ _ h _ => h, fun _ h => h, Nat.le_refl _, fun _ h => h, ⟨[], rfl, by simp⟩⟩
theorem not_none {α : Type} {o : Option α} {x : α} (h : o = some x) : o ≠ none := by rw [h]; simp
section
variable {K : Frag} {w w' w2 : Wd}
theorem Step.live (s : Step w w') (ok : Ok K w) {a : Addr} (h : w.H a ≠ none) (hl : ¬ Live w a) : ¬ Live w' a := by
  rintro ⟨n, o, h1, h2⟩
  obtain ⟨ν, e, hν⟩ := s.ext
  rw [e] at h1
  by_cases hn : n < w.mu.length
  · rw [List.getElem?_append_left hn] at h1
    have hn2 : n < w.st.length := by rw [← ok.len]; exact hn
    have e2 : w.st[n]? = some w.st[n] := List.getElem?_eq_getElem hn2
    cases q : w.st[n] with
    | none =>
      rw [q] at e2
      rw [s.dead n e2] at h2
      cases h2
    | some o' =>
      rw [q] at e2
      exact hl ⟨n, o', h1, e2⟩
  · rw [List.getElem?_append_right (by omega)] at h1
    exact h (hν a (List.mem_of_getElem? h1))
theorem Step.trans (s : Step w w') (t : Step w' w2) (ok : Ok K w) : Step w w2 := by
  obtain ⟨ν, e, hν⟩ := s.ext
  obtain ⟨ν', e', hν'⟩ := t.ext
  refine ⟨⟨ν ++ ν', by rw [e', e, List.append_assoc], fun a ha => ?_⟩, fun a o h hl => ?_, fun n h => t.dead n (s.dead n h), Nat.le_trans s.len t.len, fun a h => t.has a (s.has a h), ?_⟩
  · rcases List.mem_append.mp ha with h | h
    · exact hν a h
    · have q := hν' a h
      cases z : w.H a with
      | none => rfl
      | some o => exact absurd q (s.has a (not_none z))
  · exact t.keep a o (s.keep a o h hl) (s.live ok (not_none h) hl)
  · obtain ⟨l, e1, h1⟩ := s.op
    obtain ⟨l', e2, h2⟩ := t.op
    refine ⟨l' ++ l, by rw [e2, e1, List.append_assoc], fun a ha => ?_⟩
    rcases List.mem_append.mp ha with h | h
    · cases z : w.H a with
      | none => rfl
      | some o => exact absurd (h2 a h) (s.has a (not_none z))
    · exact h1 a h
theorem Step.notOp (s : Step w w') {a : Addr} (h : w.H a ≠ none) (ho : a ∉ w.op) : a ∉ w'.op := by
  obtain ⟨l, e, hl⟩ := s.op
  rw [e]
  intro z
  rcases List.mem_append.mp z with z | z
  · exact h (hl a z)
  · exact ho z
theorem Step.mu_get (s : Step w w') {n : Nat} {a : Addr} (h : w.mu[n]? = some a) : w'.mu[n]? = some a := by
  obtain ⟨ν, e, _⟩ := s.ext
  rw [e, List.getElem?_append_left]
  · exact h
  · exact (List.getElem?_eq_some_iff.mp h).1
theorem Ok.live_obj (ok : Ok K w) {a : Addr} (h : Live w a) : (∃ vs, w.H a = some (.lst vs)) ∨ ∃ C dx fv, w.H a = some (.ins C dx fv) := by
  obtain ⟨n, o, h1, h2⟩ := h
  have r := ok.obj n a o h1 h2
  cases o with
  | lst ds =>
    obtain ⟨vs, e, _⟩ := r
    exact .inl ⟨vs, e⟩
  | ins C fs =>
    obtain ⟨dx, fv, e, _⟩ := r
    exact .inr ⟨_, dx, fv, e⟩
theorem Step.rdT (s : Step w w') (ok : Ok K w) {a : Addr} {vs : List V} (h : Rd w.H a (.tup vs)) : Rd w'.H a (.tup vs) := by
  have nl : ∀ o, w.H a = some o → (∀ xs, o ≠ .lst xs) → (∀ C dx fv, o ≠ .ins C dx fv) → ¬ Live w a := by
    intro o e h1 h2 hl
    rcases ok.live_obj hl with ⟨xs, q⟩ | ⟨C, dx, fv, q⟩
    · rw [e] at q; cases q; exact h1 _ rfl
    · rw [e] at q; cases q; exact h2 _ _ _ rfl
  rcases h with h | ⟨o, h⟩
  · exact .inl (s.keep a _ h (nl _ h (fun _ z => nomatch z) fun _ _ _ z => nomatch z))
  · exact .inr ⟨o, s.keep a _ h (nl _ h (fun _ z => nomatch z) fun _ _ _ z => nomatch z)⟩
theorem Step.rdL (s : Step w w') {a : Addr} {vs : List V} (h : Rd w.H a (.lst vs)) (hl : ¬ Live w a) : Rd w'.H a (.lst vs) := by
  rcases h with h | ⟨o, h⟩
  · exact .inl (s.keep a _ h hl)
  · exact .inr ⟨o, s.keep a _ h hl⟩
theorem Rd.ne {H : Hp} {a : Addr} {u : HO} (h : Rd H a u) : H a ≠ none := by
  rcases h with h | ⟨o, h⟩
  · exact not_none h
  · exact not_none h
mutual
theorem Rep.step {v : V} {d : D} (s : Step w w') (ok : Ok K w) (r : Rep K w v d) : Rep K w' v d := by
  cases r with
  | non => exact .non
  | bl b => exact .bl b
  | int i => exact .int i
  | str z => exact .str z
  | ty n => exact .ty n
  | tup h ho hs => exact .tup (s.rdT ok h) (s.notOp (Rd.ne h) ho) (Reps.step s ok hs)
  | ktup h hs => exact .ktup h (Reps.step s ok hs)
  | lst h hl ho hs => exact .lst (s.keep _ _ h hl) (s.live ok (not_none h) hl) (s.notOp (not_none h) ho) (Reps.step s ok hs)
  | scr h hl ho hs => exact .scr (s.keep _ _ h hl) (s.live ok (not_none h) hl) (s.notOp (not_none h) ho) (Reps.step s ok hs)
  | kscr h ht hs => exact .kscr h ht (Reps.step s ok hs)
  | ins h hl ho hs hc => exact .ins (s.keep _ _ h hl) (s.live ok (not_none h) hl) (s.notOp (not_none h) ho) (RepF.step s ok hs) hc
  | exo h h2 hl hl2 ho ho2 hs hc => exact .exo (s.keep _ _ h hl) (s.keep _ _ h2 hl2) (s.live ok (not_none h) hl) (s.live ok (not_none h2) hl2) (s.notOp (not_none h) ho) (s.notOp (not_none h2) ho2) (RepF.step s ok hs) hc
  | ref h => exact .ref (s.mu_get h)
theorem Reps.step {vs : List V} {ds : List D} (s : Step w w') (ok : Ok K w) (r : Reps K w vs ds) : Reps K w' vs ds := by
  cases r with
  | nil => exact .nil
  | cons h t => exact .cons (Rep.step s ok h) (Reps.step s ok t)
theorem RepF.step {vs : List (Str × V)} {ds : List (Str × D)} (s : Step w w') (ok : Ok K w) (r : RepF K w vs ds) : RepF K w' vs ds := by
  cases r with
  | nil => exact .nil
  | cons h t => exact .cons (Rep.step s ok h) (RepF.step s ok t)
end
theorem Reps.length : ∀ {vs : List V} {ds : List D}, Reps K w vs ds → vs.length = ds.length
  | _, _, .nil => rfl
  | _, _, .cons _ t => congrArg Nat.succ t.length
theorem Reps.append : ∀ {vs us : List V} {ds es : List D}, Reps K w vs ds → Reps K w us es → Reps K w (vs ++ us) (ds ++ es)
  | _, _, _, _, .nil, s => s
  | _, _, _, _, .cons r t, s => .cons r (t.append s)
theorem Reps.get : ∀ {vs : List V} {ds : List D} {i : Nat} {d : D}, Reps K w vs ds → ds[i]? = some d → ∃ v, vs[i]? = some v ∧ Rep K w v d
  | _, _, 0, _, .cons r _, e => by simp at e; subst e; exact ⟨_, rfl, r⟩
  | _, _, i + 1, d, .cons _ t, e => by
    obtain ⟨v, h1, h2⟩ := Reps.get (i := i) (d := d) t (by simpa using e)
    exact ⟨v, by simpa using h1, h2⟩
theorem Reps.getV : ∀ {vs : List V} {ds : List D} {i : Nat} {v : V}, Reps K w vs ds → vs[i]? = some v → ∃ d, ds[i]? = some d ∧ Rep K w v d
  | _, _, 0, _, .cons r _, e => by simp at e; subst e; exact ⟨_, rfl, r⟩
  | _, _, i + 1, d, .cons _ t, e => by
    obtain ⟨v, h1, h2⟩ := Reps.getV (i := i) (v := d) t (by simpa using e)
    exact ⟨v, by simpa using h1, h2⟩
theorem Reps.set {v : V} {d : D} (r : Rep K w v d) : ∀ {vs : List V} {ds : List D} (i : Nat), Reps K w vs ds → Reps K w (vs.set i v) (ds.set i d)
  | _, _, _, .nil => .nil
  | _, _, 0, .cons _ t => .cons r t
  | _, _, i + 1, .cons q t => .cons q (Reps.set r i t)
theorem Reps.take : ∀ {vs : List V} {ds : List D} (n : Nat), Reps K w vs ds → Reps K w (vs.take n) (ds.take n)
  | _, _, 0, _ => by simp; exact .nil
  | _, _, _ + 1, .nil => .nil
  | _, _, n + 1, .cons r t => .cons r (Reps.take n t)
theorem Reps.drop : ∀ {vs : List V} {ds : List D} (n : Nat), Reps K w vs ds → Reps K w (vs.drop n) (ds.drop n)
  | _, _, 0, r => r
  | _, _, _ + 1, .nil => .nil
  | _, _, n + 1, .cons _ t => Reps.drop n t
theorem Reps.reverse : ∀ {vs : List V} {ds : List D}, Reps K w vs ds → Reps K w vs.reverse ds.reverse
  | _, _, .nil => .nil
  | _, _, .cons r t => by
    rw [List.reverse_cons, List.reverse_cons]
    exact t.reverse.append (.cons r .nil)
theorem Reps.zip : ∀ {vs us : List V} {ds es : List D} {i : Nat}, Reps K w vs ds → Reps K w us es → ∀ {v u : V}, vs[i]? = some v → us[i]? = some u → ∃ d e, ds[i]? = some d ∧ es[i]? = some e ∧ Rep K w v d ∧ Rep K w u e := by
  intro vs us ds es i r s v u h1 h2
  obtain ⟨d, e1, r1⟩ := r.getV h1
  obtain ⟨e, e2, r2⟩ := s.getV h2
  exact ⟨d, e, e1, e2, r1, r2⟩
theorem RepF.lookup {x : Str} : ∀ {vs : List (Str × V)} {ds : List (Str × D)} {d : D}, RepF K w vs ds → ds.lookup x = some d → ∃ v, vs.lookup x = some v ∧ Rep K w v d
  | _, _, _, .nil, e => by simp at e
  | (y, v) :: vs, _ :: ds, d, .cons r t, e => by
    rw [List.lookup_cons] at e ⊢
    cases q : x == y with
    | true =>
      rw [q] at e
      exact ⟨v, rfl, by cases e; exact r⟩
    | false =>
      rw [q] at e
      exact RepF.lookup t e
theorem RepF.lookup_none {x : Str} : ∀ {vs : List (Str × V)} {ds : List (Str × D)}, RepF K w vs ds → ds.lookup x = none → vs.lookup x = none
  | _, _, .nil, _ => rfl
  | (y, v) :: vs, _ :: ds, .cons r t, e => by
    rw [List.lookup_cons] at e ⊢
    cases q : x == y with
    | true => rw [q] at e; cases e
    | false =>
      rw [q] at e
      exact RepF.lookup_none t e
theorem RepF.length : ∀ {vs : List (Str × V)} {ds : List (Str × D)}, RepF K w vs ds → vs.length = ds.length
  | _, _, .nil => rfl
  | _, _, .cons _ t => congrArg Nat.succ t.length
end
mutual
def D.und (n : Nat) : D → Bool
  | .ref m => decide (m < n)
  | .tup ds => D.unds n ds
  | .lst ds => D.unds n ds
  | .scr ds => D.unds n ds
  | .ins _ fs => D.undF n fs
  | _ => true
def D.unds (n : Nat) : List D → Bool
  | [] => true
  | d :: ds => D.und n d && D.unds n ds
def D.undF (n : Nat) : List (Str × D) → Bool
  | [] => true
  | (_, d) :: ds => D.und n d && D.undF n ds
end
def O.und (n : Nat) : O → Bool
  | .lst ds => D.unds n ds
  | .ins _ fs => D.undF n fs
def stoBelow (n : Nat) (st : Sto) : Bool := st.all fun o => match o with
  | some o => O.und n o
  | none => true
end Sim

set_option Elab.async false
set_option linter.all false
set_option maxRecDepth 100000
set_option maxHeartbeats 4000000
/-! judgements, straight code -/
namespace Sim
open PySem PySem.Spec PyProof.Rows L2

abbrev Sl := List (Option D)
abbrev Em := Sl → Sto → Res D
abbrev Tm := Sl → Sto → Res Bool
abbrev Am := Sl → Sto → Res (List D)
inductive RS where
  | nx (σ : Sl) (st : Sto) | rt (d : D) (st : Sto) | bk (σ : Sl) (st : Sto) | ct (σ : Sl) (st : Sto) | exc (x : Exn) (σ : Sl) (st : Sto) | bad
abbrev Sm := Sl → Sto → RS

structure Slots (K : Frag) (w : Wd) (σ : Sl) (σV : L2.St) : Prop where
  len : σ.length = σV.length
  get : ∀ (i : Nat) (d : D), σ[i]? = some (some d) → ∃ v, σV[i]? = some (some v) ∧ Rep K w v d
def RepX (K : Frag) (w : Wd) (x : Exn) (cls : Value) (dd : Option Addr) : Prop :=
  cls = .ref (He.ga K x.cls) ∧ ∃ d fv, dd = some d ∧ w.H d = some (.xd fv) ∧ ¬ Live w d ∧ RepF K w fv x.fs

section
variable {α β : Type}
def PR (K : Frag) (R : Wd → β → α → Prop) (w : Wd) (r : Res α) (Q : β → Hp → Prop) (E : XK) : Prop := match r with
  | .ok d st => ∀ b mu H, Step w ⟨mu, st, H, w.op⟩ → Ok K ⟨mu, st, H, w.op⟩ → R ⟨mu, st, H, w.op⟩ b d → Q b H
  | .exc x st => ∀ c dd mu H, Step w ⟨mu, st, H, w.op⟩ → Ok K ⟨mu, st, H, w.op⟩ → RepX K ⟨mu, st, H, w.op⟩ x c dd → E c dd H
  | .bad => False
def PSr (K : Frag) (w : Wd) (r : RS) (D : Ends) (W : WX) : Prop := match r with
  | .nx σ st => ∀ σV mu H, Step w ⟨mu, st, H, w.op⟩ → Ok K ⟨mu, st, H, w.op⟩ → Slots K ⟨mu, st, H, w.op⟩ σ σV → D.nx σV H
  | .rt d st => ∀ v mu H, Step w ⟨mu, st, H, w.op⟩ → Ok K ⟨mu, st, H, w.op⟩ → Rep K ⟨mu, st, H, w.op⟩ v d → D.rt v H
  | .bk σ st => ∀ σV mu H, Step w ⟨mu, st, H, w.op⟩ → Ok K ⟨mu, st, H, w.op⟩ → Slots K ⟨mu, st, H, w.op⟩ σ σV → D.bk σV H
  | .ct σ st => ∀ σV mu H, Step w ⟨mu, st, H, w.op⟩ → Ok K ⟨mu, st, H, w.op⟩ → Slots K ⟨mu, st, H, w.op⟩ σ σV → D.ct σV H
  | .exc x σ st => ∀ c dd σV mu H, Step w ⟨mu, st, H, w.op⟩ → Ok K ⟨mu, st, H, w.op⟩ → Slots K ⟨mu, st, H, w.op⟩ σ σV → RepX K ⟨mu, st, H, w.op⟩ x c dd → W c dd σV H
  | .bad => False
variable {K : Frag} {w w' w2 : Wd}
theorem Slots.step {σ : Sl} {σV : L2.St} (s : Step w w') (ok : Ok K w) (h : Slots K w σ σV) : Slots K w' σ σV :=
  ⟨h.len, fun i d e => let ⟨v, e1, r⟩ := h.get i d e; ⟨v, e1, r.step s ok⟩⟩
theorem RepX.step {x : Exn} {c : Value} {dd : Option Addr} (s : Step w w') (ok : Ok K w) (h : RepX K w x c dd) : RepX K w' x c dd := by
  obtain ⟨h1, d, fv, h2, h3, h4, h5⟩ := h
  exact ⟨h1, d, fv, h2, s.keep _ _ h3 h4, s.live ok (not_none h3) h4, h5.step s ok⟩
theorem Slots.set {σ : Sl} {σV : L2.St} {v : V} {d : D} (h : Slots K w σ σV) (r : Rep K w v d) (i : Nat) : Slots K w (σ.set i (some d)) (σV.set i (some v)) := by
  refine ⟨by simpa using h.len, fun j e hj => ?_⟩
  by_cases q : j = i
  · subst q
    have hl : j < σ.length := by
      have := (List.getElem?_eq_some_iff.mp hj).1
      simpa using this
    rw [List.getElem?_set_self hl] at hj
    cases hj
    exact ⟨v, List.getElem?_set_self (by rw [← h.len]; exact hl), r⟩
  · rw [List.getElem?_set_ne (Ne.symm q)] at hj
    obtain ⟨u, e1, r1⟩ := h.get j e hj
    exact ⟨u, by rw [List.getElem?_set_ne (Ne.symm q)]; exact e1, r1⟩
theorem Slots.del {σ : Sl} {σV : L2.St} (h : Slots K w σ σV) (i : Nat) (o : Option V) : Slots K w (σ.set i none) (σV.set i o) := by
  refine ⟨by simpa using h.len, fun j e hj => ?_⟩
  by_cases q : j = i
  · subst q
    have hl : j < σ.length := by
      have := (List.getElem?_eq_some_iff.mp hj).1
      simpa using this
    rw [List.getElem?_set_self hl] at hj
    cases hj
  · rw [List.getElem?_set_ne (Ne.symm q)] at hj
    obtain ⟨u, e1, r1⟩ := h.get j e hj
    exact ⟨u, by rw [List.getElem?_set_ne (Ne.symm q)]; exact e1, r1⟩
variable {R R1 R2 : Wd → β → α → Prop}
theorem PR.step {r : Res α} {Q : β → Hp → Prop} {E : XK} (s : Step w w') (ok : Ok K w) (h : PR K R w r Q E) (hop : w'.op = w.op := by rfl) : PR K R w' r Q E := by
  obtain ⟨mu', st', H', op'⟩ := w'
  obtain rfl : op' = w.op := hop
  cases r with
  | ok d st => exact fun b mu H t o q => h b mu H (s.trans t ok) o q
  | exc x st => exact fun c dd mu H t o q => h c dd mu H (s.trans t ok) o q
  | bad => exact h
theorem PR.mono {r : Res α} {Q Q' : β → Hp → Prop} {E E' : XK} (h : PR K R w r Q E) (hq : ∀ b H, Q b H → Q' b H) (he : ∀ c d H, E c d H → E' c d H) : PR K R w r Q' E' := by
  cases r with
  | ok d st => exact fun b mu H t o q => hq _ _ (h b mu H t o q)
  | exc x st => exact fun c dd mu H t o q => he _ _ _ (h c dd mu H t o q)
  | bad => exact h
theorem PR.bind {γ δ : Type} {Ra : Wd → δ → γ → Prop} {r : Res γ} {f : γ → Sto → Res α} {Q : β → Hp → Prop} {E : XK} {Qa : δ → Hp → Prop} (ok : Ok K w) (h : PR K R w (r.bind f) Q E)
    (k : ∀ d st b mu H, r = .ok d st → Step w ⟨mu, st, H, w.op⟩ → Ok K ⟨mu, st, H, w.op⟩ → Ra ⟨mu, st, H, w.op⟩ b d → PR K R ⟨mu, st, H, w.op⟩ (f d st) Q E → Qa b H) : PR K Ra w r Qa E := by
  cases r with
  | ok d st => exact fun b mu H t o q => k d st b mu H rfl t o q (PR.step t ok h)
  | exc x st => exact h
  | bad => exact h
theorem PSr.step {r : RS} {D : Ends} {W : WX} (s : Step w w') (ok : Ok K w) (h : PSr K w r D W) (hop : w'.op = w.op := by rfl) : PSr K w' r D W := by
  obtain ⟨mu', st', H', op'⟩ := w'
  obtain rfl : op' = w.op := hop
  cases r with
  | nx σ st => exact fun b mu H t o q => h b mu H (s.trans t ok) o q
  | rt σ st => exact fun b mu H t o q => h b mu H (s.trans t ok) o q
  | bk σ st => exact fun b mu H t o q => h b mu H (s.trans t ok) o q
  | ct σ st => exact fun b mu H t o q => h b mu H (s.trans t ok) o q
  | exc x σ st => exact fun c dd b mu H t o q => h c dd b mu H (s.trans t ok) o q
  | bad => exact h
/-- pure results -/
theorem PR.ret {d : α} {b : β} {Q : β → Hp → Prop} {E : XK} (ok : Ok K w) (h : PR K R w (.ok d w.st) Q E) (r : R w b d) : Q b w.H := by
  obtain ⟨mu, st, H, op⟩ := w
  exact h b mu H (.refl _) ok r
end
abbrev xk (W : WX) (σV : L2.St) : XK := fun c dd H => W c dd σV H
def TEm (K : Frag) (m : Em) (W : WX) : TE := fun σV H Q => ∃ w σ, w.H = H ∧ Ok K w ∧ Slots K w σ σV ∧ PR K (Rep K) w (m σ w.st) Q (xk W σV)
def TTm (K : Frag) (m : Tm) (W : WX) : TT := fun σV H Q => ∃ w σ, w.H = H ∧ Ok K w ∧ Slots K w σ σV ∧ PR K (fun _ b c => b = c) w (m σ w.st) Q (xk W σV)
def TAm (K : Frag) (m : Am) (W : WX) : TA := fun σV H Q => ∃ w σ, w.H = H ∧ Ok K w ∧ Slots K w σ σV ∧ PR K (Reps K) w (m σ w.st) Q (xk W σV)
def TSm (K : Frag) (m : Sm) (W : WX) : TS := fun D σV H => ∃ w σ, w.H = H ∧ Ok K w ∧ Slots K w σ σV ∧ PSr K w (m σ w.st) D W
def SE (X : Cx) (W : WX) (e : Expr) (m : Em) : Prop := PE X e (TEm X.K m W)
def ST (X : Cx) (W : WX) (e : Expr) (m : Tm) : Prop := PT X e (TTm X.K m W)
def SW (X : Cx) (W : WX) (e : Expr) (m : Tm) : Prop := PW X e (TTm X.K m W)
def SA (X : Cx) (W : WX) (es : List Expr) (m : Am) : Prop := PA X es (TAm X.K m W)
def SS (X : Cx) (W : WX) (s : Stmt) (m : Sm) : Prop := PS X s (TSm X.K m W)
def SSs (X : Cx) (W : WX) (s : List Stmt) (m : Sm) : Prop := PSs X s (TSm X.K m W)
/-- weakening the reading -/
theorem pe_imp {X : Cx} {e : Expr} {t t' : TE} (h : PE X e t) (i : ∀ σ H Q, t' σ H Q → t σ H Q) : PE X e t' := ⟨fun pins s σ H Q I q => h.run pins s σ H Q I (i σ H Q q)⟩
theorem pt_imp {X : Cx} {e : Expr} {t t' : TT} (h : PT X e t) (i : ∀ σ H Q, t' σ H Q → t σ H Q) : PT X e t' := ⟨fun pins s σ H Q I q => h.run pins s σ H Q I (i σ H Q q)⟩
theorem pw_imp {X : Cx} {e : Expr} {t t' : TT} (h : PW X e t) (i : ∀ σ H Q, t' σ H Q → t σ H Q) : PW X e t' := ⟨fun wh pins s σ H Q I q => h.run wh pins s σ H Q I (i σ H Q q)⟩
theorem pa_imp {X : Cx} {e : List Expr} {t t' : TA} (h : PA X e t) (i : ∀ σ H Q, t' σ H Q → t σ H Q) : PA X e t' := ⟨fun pos pins s σ H Q I q => h.run pos pins s σ H Q I (i σ H Q q)⟩
theorem ps_imp {X : Cx} {e : Stmt} {t t' : TS} (h : PS X e t) (i : ∀ D σ H, t' D σ H → t D σ H) : PS X e t' := ⟨fun pins s σ H D I q => h.run pins s σ H D I (i D σ H q)⟩
theorem pss_imp {X : Cx} {e : List Stmt} {t t' : TS} (h : PSs X e t) (i : ∀ D σ H, t' D σ H → t D σ H) : PSs X e t' := ⟨fun pins s σ H D I q => h.run pins s σ H D I (i D σ H q)⟩

/-! ### expressions -/
section
variable {X : Cx} {W : WX} {K : Frag}
def eVar (i : Nat) : Em := fun σ st => match σ[i]? with
  | some (some d) => .ok d st
  | _ => .bad
theorem se_var {i : Nat} {e : Expr} (h : PE X e (tVar i)) : SE X W e (eVar i) := pe_imp h fun σV H Q q => by
  obtain ⟨w, σ, rfl, ok, sl, p⟩ := q
  unfold eVar at p
  cases e1 : σ[i]? with
  | none => rw [e1] at p; exact p.elim
  | some o =>
    cases o with
    | none => rw [e1] at p; exact p.elim
    | some d =>
      rw [e1] at p
      obtain ⟨v, e2, r⟩ := sl.get i d e1
      exact ⟨v, e2, PR.ret (R := Rep X.K) ok p r⟩
def eC (d : D) : Em := fun _ st => .ok d st
theorem se_C {e : Expr} {v : V} {d : D} (h : PE X e (tC v)) (r : ∀ w, Ok X.K w → Rep X.K w v d) : SE X W e (eC d) := pe_imp h fun σV H Q q => by
  obtain ⟨w, σ, rfl, ok, sl, p⟩ := q
  exact PR.ret (R := Rep X.K) ok p (r w ok)
theorem se_int {i : Int} {j pos} : SE X W (.Constant (.int i) j pos) (eC (.int i)) := se_C pe_int fun _ _ => .int i
theorem se_bl {b : Bool} {j pos} : SE X W (.Constant (.bool b) j pos) (eC (.bl b)) := se_C pe_bl fun _ _ => .bl b
theorem se_non {j pos} : SE X W (.Constant .none j pos) (eC .non) := se_C pe_non fun _ _ => .non
theorem se_str {x : Str} {j pos} : SE X W (.Constant (.str x) j pos) (eC (.str x)) := se_C pe_str fun _ _ => .str x
/-- the inner step of two places -/
def GOp (K : Frag) (r : R2) (g : D → D → Sto → Res D) : Prop := ∀ (w : Wd) (x y : V) (dx dy : D) (Q : VK) (E : XK), Ok K w → Rep K w x dx → Rep K w y dy → PR K (Rep K) w (g dx dy w.st) Q E → r x y w.H Q
def GUn (K : Frag) (r : V → Hp → VK → Prop) (g : D → Sto → Res D) : Prop := ∀ (w : Wd) (x : V) (dx : D) (Q : VK) (E : XK), Ok K w → Rep K w x dx → PR K (Rep K) w (g dx w.st) Q E → r x w.H Q
@[simp] def eBin (g : D → D → Sto → Res D) (a b : Em) : Em := fun σ st => (a σ st).bind fun x st1 => (b σ st1).bind fun y st2 => g x y st2
@[simp] def eUn (g : D → Sto → Res D) (a : Em) : Em := fun σ st => (a σ st).bind fun x st1 => g x st1
theorem t_bin {r : R2} {g : D → D → Sto → Res D} {a b : Em} (hg : GOp K r g) {σV : L2.St} {H : Hp} {Q : VK} (q : TEm K (eBin g a b) W σV H Q) : tOp r (TEm K a W) (TEm K b W) σV H Q := by
  obtain ⟨w, σ, rfl, ok, sl, p⟩ := q
  refine ⟨w, σ, rfl, ok, sl, PR.bind ok p fun d st x mu H1 e1 s1 ok1 r1 p1 => ?_⟩
  refine ⟨⟨mu, st, H1, w.op⟩, σ, rfl, ok1, sl.step s1 ok, PR.bind ok1 p1 fun d2 st2 y mu2 H2 e2 s2 ok2 r2 p2 => ?_⟩
  exact hg ⟨mu2, st2, H2, w.op⟩ x y d d2 Q _ ok2 (r1.step s2 ok1) r2 p2
theorem t_un {r : V → Hp → VK → Prop} {g : D → Sto → Res D} {a : Em} (hg : GUn K r g) {σV : L2.St} {H : Hp} {Q : VK} (q : TEm K (eUn g a) W σV H Q) : tUn r (TEm K a W) σV H Q := by
  obtain ⟨w, σ, rfl, ok, sl, p⟩ := q
  refine ⟨w, σ, rfl, ok, sl, PR.bind ok p fun d st x mu H1 e1 s1 ok1 r1 p1 => ?_⟩
  exact hg ⟨mu, st, H1, w.op⟩ x d Q _ ok1 r1 p1
theorem se_bin {op : Operator} {r : R2} {g : D → D → Sto → Res D} {a b : Expr} {ma mb : Em} {pos : Pos} (ho : OpR X (binaryOp op) r) (hg : GOp X.K r g) (ha : SE X W a ma) (hb : SE X W b mb) : SE X W (.BinOp a op b pos) (eBin g ma mb) :=
  pe_imp (pe_op ho ha hb) fun _ _ _ q => t_bin hg q
theorem se_un {op : UnaryOp} {r : V → Hp → VK → Prop} {g : D → Sto → Res D} {a : Expr} {ma : Em} {pos : Pos} (ho : UnR X (unaryOp op) r) (hg : GUn X.K r g) (ha : SE X W a ma) : SE X W (.UnaryOp op a pos) (eUn g ma) :=
  pe_imp (pe_un ho ha) fun _ _ _ q => t_un hg q
theorem se_cmp {op : CmpOp} {r : R2} {g : D → D → Sto → Res D} {a b : Expr} {ma mb : Em} {pos : Pos} (ho : OpR X (compareOp op) r) (hg : GOp X.K r g) (ha : SE X W a ma) (hb : SE X W b mb) (hm : behindInMarks op b = false) : SE X W (.Compare a [op] [b] pos) (eBin g ma mb) :=
  pe_imp (pe_cmpR ho ha hb hm) fun _ _ _ q => t_bin hg q
/-- a value that is a bool, as a test -/
@[simp] def tOf (m : Em) : Tm := fun σ st => (m σ st).bind fun d st => match d with
  | .bl b => .ok b st
  | _ => .bad
theorem t_test {m : Em} {σV : L2.St} {H : Hp} {Q : Bool → Hp → Prop} (q : TTm K (tOf m) W σV H Q) : tTest (TEm K m W) σV H Q := by
  obtain ⟨w, σ, rfl, ok, sl, p⟩ := q
  refine ⟨w, σ, rfl, ok, sl, PR.bind ok p fun d st x mu H1 e1 s1 ok1 r1 p1 => ?_⟩
  cases r1 with
  | bl b => exact ⟨b, rfl, PR.ret (R := fun _ b c => b = c) ok1 p1 rfl⟩
  | _ => exact p1.elim
theorem st_cmp {op : CmpOp} {r : R2} {g : D → D → Sto → Res D} {a b : Expr} {ma mb : Em} {pos : Pos} (ho : OpR X (compareOp op) r) (hg : GOp X.K r g) (ha : SE X W a ma) (hb : SE X W b mb) (hm : behindInMarks op b = false) : ST X W (.Compare a [op] [b] pos) (tOf (eBin g ma mb)) :=
  pt_imp (pt_cmpR ho ha hb hm) fun σV H Q q => by
    have q2 := t_test q
    obtain ⟨w, σ, h1, ok, sl, p⟩ := q2
    exact t_bin hg ⟨w, σ, h1, ok, sl, p⟩
end
end Sim

set_option Elab.async false
set_option linter.all false
set_option maxRecDepth 100000
set_option maxHeartbeats 4000000
/-! tests, displays, statements -/
namespace Sim
open PySem PySem.Spec PyProof.Rows L2

/-! ### worlds with one thing more -/
section
variable {K : Frag} {w : Wd}
def Wd.put (w : Wd) (p : Addr) (o : HO) : Wd := ⟨w.mu, w.st, upd w.H p o, w.op⟩
theorem Ok.notMem (ok : Ok K w) {p : Addr} (h : w.H p = none) : p ∉ w.mu := fun hm => by
  obtain ⟨o, e⟩ := ok.has p hm
  rw [h] at e; cases e
theorem put_step {p : Addr} {o : HO} (h : w.H p = none) : Step w (w.put p o) := by
  refine ⟨⟨[], by simp [Wd.put], by simp⟩, fun a u e _ => ?_, fun _ e => e, Nat.le_refl _, fun a e => ?_, ⟨[], rfl, by simp⟩⟩
  · show upd w.H p o a = some u
    rw [upd_ne (ne_of_none e h)]; exact e
  · show upd w.H p o a ≠ none
    by_cases q : a = p
    · rw [q, upd_same]; simp
    · rw [upd_ne q]; exact e
theorem put_live {p : Addr} {o : HO} (ok : Ok K w) (h : w.H p = none) : ¬ Live (w.put p o) p := by
  rintro ⟨n, u, h1, _⟩
  exact ok.notMem h (List.mem_of_getElem? h1)
theorem RepO.step {w' : Wd} {a : Addr} {o : O} (s : Step w w') (ok : Ok K w) (e : w'.H a = w.H a) (r : RepO K w a o) : RepO K w' a o := by
  cases o with
  | lst ds =>
    obtain ⟨vs, h, q⟩ := r
    exact ⟨vs, e.trans h, q.step s ok⟩
  | ins C fs =>
    obtain ⟨dx, fv, h, q, hc⟩ := r
    exact ⟨dx, fv, e.trans h, q.step s ok, hc⟩
theorem put_ok {p : Addr} {o : HO} (ok : Ok K w) (h : w.H p = none) : Ok K (w.put p o) := by
  refine ⟨ok.len, ok.nd, fun a ha => ?_, fun a ha => ⟨(ok.opn a ha).1, (put_step h).has a (ok.opn a ha).2⟩, fun n a u h1 h2 => ?_⟩
  · have q : a ≠ p := fun z => ok.notMem h (z ▸ ha)
    obtain ⟨u, e⟩ := ok.has a ha
    exact ⟨u, (upd_ne q).trans e⟩
  · have q : a ≠ p := fun z => ok.notMem h (z ▸ List.mem_of_getElem? h1)
    exact (ok.obj n a u h1 h2).step (put_step h) ok (upd_ne q)
/-- a new object of the store -/
def Wd.add (w : Wd) (p : Addr) (o : HO) (u : O) : Wd := ⟨w.mu ++ [p], w.st ++ [some u], upd w.H p o, w.op⟩
theorem add_step {p : Addr} {o : HO} {u : O} (h : w.H p = none) : Step w (w.add p o u) := by
  refine ⟨⟨[p], rfl, fun a ha => by rw [List.mem_singleton.mp ha]; exact h⟩, fun a u e _ => ?_, fun n e => ?_, by simp [Wd.add], fun a e => ?_, ⟨[], rfl, by simp⟩⟩
  · show upd w.H p o a = some u
    rw [upd_ne (ne_of_none e h)]; exact e
  · show (w.st ++ [some u])[n]? = some none
    rw [List.getElem?_append_left (List.getElem?_eq_some_iff.mp e).1]; exact e
  · show upd w.H p o a ≠ none
    by_cases q : a = p
    · rw [q, upd_same]; simp
    · rw [upd_ne q]; exact e
theorem add_ok {p : Addr} {o : HO} {u : O} (ok : Ok K w) (h : w.H p = none) (r : RepO K (w.add p o u) p u) : Ok K (w.add p o u) := by
  refine ⟨by simp [Wd.add, ok.len], ?_, fun a ha => ?_, fun a ha => ⟨fun z => ?_, (add_step (u := u) h).has a (ok.opn a ha).2⟩, fun n a x h1 h2 => ?_⟩
  · show (w.mu ++ [p]).Nodup
    rw [List.nodup_append]
    refine ⟨ok.nd, by simp, fun a ha b hb z => ?_⟩
    have e : b = p := by simpa using hb
    exact ok.notMem h (e ▸ z ▸ ha)
  · by_cases q : a = p
    · exact ⟨o, by rw [q]; exact upd_same⟩
    · have ha' : a ∈ w.mu := by
        rcases List.mem_append.mp (show a ∈ w.mu ++ [p] from ha) with z | z
        · exact z
        · exact absurd (by simpa using z) q
      obtain ⟨x, e⟩ := ok.has a ha'
      exact ⟨x, (upd_ne q).trans e⟩
  · have z : a ∈ w.mu ++ [p] := z
    rcases List.mem_append.mp z with z | z
    · exact (ok.opn a ha).1 z
    · rw [List.mem_singleton.mp z] at ha
      exact (ok.opn p ha).2 h
  · have h1 : (w.mu ++ [p])[n]? = some a := h1
    have h2 : (w.st ++ [some u])[n]? = some (some x) := h2
    by_cases hn : n < w.mu.length
    · rw [List.getElem?_append_left hn] at h1
      rw [List.getElem?_append_left (by rw [← ok.len]; exact hn)] at h2
      have q : a ≠ p := fun z => ok.notMem h (z ▸ List.mem_of_getElem? h1)
      exact (ok.obj n a x h1 h2).step (add_step h) ok (upd_ne q)
    · rw [List.getElem?_append_right (by omega)] at h1
      rw [List.getElem?_append_right (by rw [← ok.len]; omega)] at h2
      have e1 : a = p := by
        have := List.mem_of_getElem? h1
        simpa using this
      have e2 : x = u := by
        have := List.mem_of_getElem? h2
        simpa using this
      rw [e1, e2]; exact r
/-- an object of the store written -/
def Wd.wr (w : Wd) (n : Nat) (a : Addr) (o : HO) (u : O) : Wd := ⟨w.mu, w.st.set n (some u), upd w.H a o, w.op⟩
theorem wr_step {n : Nat} {a : Addr} {o : HO} {u u0 : O} (h1 : w.mu[n]? = some a) (h2 : w.st[n]? = some (some u0)) : Step w (w.wr n a o u) := by
  refine ⟨⟨[], by simp [Wd.wr], by simp⟩, fun b x e hl => ?_, fun m e => ?_, by simp [Wd.wr], fun b e => ?_, ⟨[], rfl, by simp⟩⟩
  · have q : b ≠ a := fun z => hl ⟨n, u0, z ▸ h1, h2⟩
    exact (upd_ne q).trans e
  · show (w.st.set n (some u))[m]? = some none
    have q : n ≠ m := fun z => by rw [z, e] at h2; cases h2
    rw [List.getElem?_set_ne q]; exact e
  · show upd w.H a o b ≠ none
    by_cases q : b = a
    · rw [q, upd_same]; simp
    · rw [upd_ne q]; exact e
theorem mu_inj (ok : Ok K w) {n m : Nat} {a : Addr} (h1 : w.mu[n]? = some a) (h2 : w.mu[m]? = some a) : n = m := by
  have e1 := List.getElem?_eq_some_iff.mp h1
  have e2 := List.getElem?_eq_some_iff.mp h2
  obtain ⟨l1, q1⟩ := e1
  obtain ⟨l2, q2⟩ := e2
  exact (List.getElem_inj ok.nd).mp (q1.trans q2.symm)
theorem wr_ok {n : Nat} {a : Addr} {o : HO} {u u0 : O} (ok : Ok K w) (h1 : w.mu[n]? = some a) (h2 : w.st[n]? = some (some u0)) (r : RepO K (w.wr n a o u) a u) : Ok K (w.wr n a o u) := by
  refine ⟨by simp [Wd.wr, ok.len], ok.nd, fun b hb => ?_, fun a ha => ⟨(ok.opn a ha).1, (wr_step h1 h2).has a (ok.opn a ha).2⟩, fun m b x e1 e2 => ?_⟩
  · by_cases q : b = a
    · exact ⟨o, by rw [q]; exact upd_same⟩
    · obtain ⟨y, e⟩ := ok.has b hb
      exact ⟨y, (upd_ne q).trans e⟩
  · have e1 : w.mu[m]? = some b := e1
    have e2 : (w.st.set n (some u))[m]? = some (some x) := e2
    by_cases q : m = n
    · subst q
      obtain rfl : a = b := Option.some.inj (h1.symm.trans e1)
      rw [List.getElem?_set_self (List.getElem?_eq_some_iff.mp h2).1] at e2
      obtain rfl : u = x := Option.some.inj (Option.some.inj e2)
      exact r
    · rw [List.getElem?_set_ne (Ne.symm q)] at e2
      have qb : b ≠ a := fun z => q (mu_inj ok e1 (z ▸ h1))
      exact (ok.obj m b x e1 e2).step (wr_step h1 h2) ok (upd_ne qb)
/-- an object of the store is no more changed -/
def Wd.kill (w : Wd) (n : Nat) : Wd := ⟨w.mu, w.st.set n none, w.H, w.op⟩
theorem kill_step {n : Nat} : Step w (w.kill n) := by
  refine ⟨⟨[], by simp [Wd.kill], by simp⟩, fun b x e hl => e, fun m e => ?_, by simp [Wd.kill], fun b e => e, ⟨[], rfl, by simp⟩⟩
  show (w.st.set n none)[m]? = some none
  by_cases q : n = m
  · subst q
    exact List.getElem?_set_self (List.getElem?_eq_some_iff.mp e).1
  · rw [List.getElem?_set_ne q]; exact e
theorem kill_ok {n : Nat} (ok : Ok K w) : Ok K (w.kill n) := by
  refine ⟨by simp [Wd.kill, ok.len], ok.nd, ok.has, ok.opn, fun m b x e1 e2 => ?_⟩
  have e2 : (w.st.set n none)[m]? = some (some x) := e2
  have q : n ≠ m := fun z => by
    subst z
    rw [List.getElem?_set_self (by have := (List.getElem?_eq_some_iff.mp e2).1; simpa using this)] at e2
    cases e2
  rw [List.getElem?_set_ne q] at e2
  exact (ok.obj m b x e1 e2).step kill_step ok rfl
theorem kill_live {n : Nat} {a : Addr} (ok : Ok K w) (h1 : w.mu[n]? = some a) : ¬ Live (w.kill n) a := by
  rintro ⟨m, o, e1, e2⟩
  have e1 : w.mu[m]? = some a := e1
  have q := mu_inj ok h1 e1
  subst q
  have e2 : (w.st.set n none)[n]? = some (some o) := e2
  rw [List.getElem?_set_self (by have := (List.getElem?_eq_some_iff.mp e2).1; simpa using this)] at e2
  cases e2
end

section
variable {X : Cx} {W : WX}
/-! ### tests -/
@[simp] def tAnd (a b : Tm) : Tm := fun σ st => (a σ st).bind fun c st1 => if c = true then b σ st1 else .ok false st1
@[simp] def tOr (a b : Tm) : Tm := fun σ st => (a σ st).bind fun c st1 => if c = true then .ok true st1 else b σ st1
@[simp] def tNot (a : Tm) : Tm := fun σ st => (a σ st).bind fun c st1 => .ok (!c) st1
theorem st_sw {e : Expr} {m : Tm} (h : SW X W e m) : ST X W e m := PW.pt h
theorem sw_and1 {a : Expr} {m : Tm} {pos : Pos} (h : ST X W a m) : SW X W (.BoolOp .And [a] pos) m := pw_and1 h
theorem sw_or1 {a : Expr} {m : Tm} {pos : Pos} (h : ST X W a m) : SW X W (.BoolOp .Or [a] pos) m := pw_or1 h
theorem sw_and {a b : Expr} {r : List Expr} {ma mb : Tm} {pos : Pos} (ha : ST X W a ma) (hb : SW X W (.BoolOp .And (b :: r) pos) mb) : SW X W (.BoolOp .And (a :: b :: r) pos) (tAnd ma mb) :=
  pw_imp (pw_and ha hb) fun σV H Q q => by
    obtain ⟨w, σ, rfl, ok, sl, p⟩ := q
    refine ⟨w, σ, rfl, ok, sl, PR.bind ok p fun c st b mu H1 e1 s1 ok1 r1 p1 => ?_⟩
    subst r1
    cases b with
    | true => exact ⟨⟨mu, st, H1, w.op⟩, σ, rfl, ok1, sl.step s1 ok, p1⟩
    | false => exact PR.ret (R := fun _ b c => b = c) ok1 p1 rfl
theorem sw_or {a b : Expr} {r : List Expr} {ma mb : Tm} {pos : Pos} (ha : ST X W a ma) (hb : SW X W (.BoolOp .Or (b :: r) pos) mb) : SW X W (.BoolOp .Or (a :: b :: r) pos) (tOr ma mb) :=
  pw_imp (pw_or ha hb) fun σV H Q q => by
    obtain ⟨w, σ, rfl, ok, sl, p⟩ := q
    refine ⟨w, σ, rfl, ok, sl, PR.bind ok p fun c st b mu H1 e1 s1 ok1 r1 p1 => ?_⟩
    subst r1
    cases b with
    | false => exact ⟨⟨mu, st, H1, w.op⟩, σ, rfl, ok1, sl.step s1 ok, p1⟩
    | true => exact PR.ret (R := fun _ b c => b = c) ok1 p1 rfl
theorem st_not {a : Expr} {ma : Tm} {pos : Pos} (ha : ST X W a ma) : ST X W (.UnaryOp .Not a pos) (tNot ma) :=
  pt_imp (pt_not ha) fun σV H Q q => by
    obtain ⟨w, σ, rfl, ok, sl, p⟩ := q
    refine ⟨w, σ, rfl, ok, sl, PR.bind ok p fun c st b mu H1 e1 s1 ok1 r1 p1 => ?_⟩
    exact PR.ret (R := fun _ b c => b = c) ok1 p1 (by rw [r1])
/-- an expression whose value is a bool, as a test -/
theorem st_val {e : Expr} {m : Em} (h : SE X W e m) (he : ∀ whole, isTrue e X.env whole = (do let v ← whole; standAt e.pos; holding [v] (truthy v)) := by intro _; rfl) : ST X W e (tOf m) :=
  pt_imp (pt_val h he) fun σV H Q q => by
    obtain ⟨w, σ, h1, ok, sl, p⟩ := t_test q
    exact ⟨w, σ, h1, ok, sl, p⟩
/-- and, or, not of bools, as values -/
@[simp] def eAnd (a b : Em) : Em := fun σ st => (a σ st).bind fun d st1 => match d with
  | .bl true => b σ st1
  | .bl false => .ok (.bl false) st1
  | _ => .bad
@[simp] def eOr (a b : Em) : Em := fun σ st => (a σ st).bind fun d st1 => match d with
  | .bl true => .ok (.bl true) st1
  | .bl false => b σ st1
  | _ => .bad
@[simp] def eNot (a : Em) : Em := fun σ st => (a σ st).bind fun d st1 => match d with
  | .bl c => .ok (.bl (!c)) st1
  | _ => .bad
theorem se_one {a : Expr} {m : Em} {op} {pos : Pos} (h : SE X W a m) : SE X W (.BoolOp op [a] pos) m := pe_one h
theorem se_and {a b : Expr} {r : List Expr} {ma mb : Em} {pos : Pos} (ha : SE X W a ma) (hb : SE X W (.BoolOp .And (b :: r) pos) mb) : SE X W (.BoolOp .And (a :: b :: r) pos) (eAnd ma mb) :=
  pe_imp (pe_and ha hb) fun σV H Q q => by
    obtain ⟨w, σ, rfl, ok, sl, p⟩ := q
    refine ⟨w, σ, rfl, ok, sl, PR.bind ok p fun c st b mu H1 e1 s1 ok1 r1 p1 => ?_⟩
    cases r1 with
    | bl c =>
      refine ⟨c, rfl, ?_⟩
      cases c with
      | true => exact ⟨⟨mu, st, H1, w.op⟩, σ, rfl, ok1, sl.step s1 ok, p1⟩
      | false => exact PR.ret (R := Rep X.K) ok1 p1 (.bl false)
    | _ => exact p1.elim
theorem se_or {a b : Expr} {r : List Expr} {ma mb : Em} {pos : Pos} (ha : SE X W a ma) (hb : SE X W (.BoolOp .Or (b :: r) pos) mb) : SE X W (.BoolOp .Or (a :: b :: r) pos) (eOr ma mb) :=
  pe_imp (pe_or ha hb) fun σV H Q q => by
    obtain ⟨w, σ, rfl, ok, sl, p⟩ := q
    refine ⟨w, σ, rfl, ok, sl, PR.bind ok p fun c st b mu H1 e1 s1 ok1 r1 p1 => ?_⟩
    cases r1 with
    | bl c =>
      refine ⟨c, rfl, ?_⟩
      cases c with
      | false => exact ⟨⟨mu, st, H1, w.op⟩, σ, rfl, ok1, sl.step s1 ok, p1⟩
      | true => exact PR.ret (R := Rep X.K) ok1 p1 (.bl true)
    | _ => exact p1.elim
theorem se_not {a : Expr} {ma : Em} {pos : Pos} (ha : SE X W a ma) : SE X W (.UnaryOp .Not a pos) (eNot ma) :=
  pe_imp (pe_not ha) fun σV H Q q => by
    obtain ⟨w, σ, rfl, ok, sl, p⟩ := q
    refine ⟨w, σ, rfl, ok, sl, PR.bind ok p fun c st b mu H1 e1 s1 ok1 r1 p1 => ?_⟩
    cases r1 with
    | bl c => exact ⟨c, rfl, PR.ret (R := Rep X.K) ok1 p1 (.bl _)⟩
    | _ => exact p1.elim
@[simp] def eIf (t : Tm) (a b : Em) : Em := fun σ st => (t σ st).bind fun c st1 => if c = true then a σ st1 else b σ st1
theorem se_if {t a b : Expr} {mt : Tm} {ma mb : Em} {pos : Pos} (ht : ST X W t mt) (ha : SE X W a ma) (hb : SE X W b mb) : SE X W (.IfExp t a b pos) (eIf mt ma mb) :=
  pe_imp (pe_ifExp ht ha hb) fun σV H Q q => by
    obtain ⟨w, σ, rfl, ok, sl, p⟩ := q
    refine ⟨w, σ, rfl, ok, sl, PR.bind ok p fun c st b mu H1 e1 s1 ok1 r1 p1 => ?_⟩
    subst r1
    cases b with
    | true => exact ⟨⟨mu, st, H1, w.op⟩, σ, rfl, ok1, sl.step s1 ok, p1⟩
    | false => exact ⟨⟨mu, st, H1, w.op⟩, σ, rfl, ok1, sl.step s1 ok, p1⟩
/-- a op b op' c -/
@[simp] def eChain (g g' : D → D → Sto → Res D) (a b c : Em) : Em := fun σ st => (a σ st).bind fun x st1 => (b σ st1).bind fun y st2 => (g x y st2).bind fun z st3 => match z with
  | .bl true => (c σ st3).bind fun u st4 => g' y u st4
  | .bl false => .ok (.bl false) st3
  | _ => .bad
theorem t_chain {r r' : R2} {g g' : D → D → Sto → Res D} {a b c : Em} (hg : GOp X.K r g) (hg' : GOp X.K r' g') {σV : L2.St} {H : Hp} {Q : VK} (q : TEm X.K (eChain g g' a b c) W σV H Q) : tChain r r' (TEm X.K a W) (TEm X.K b W) (TEm X.K c W) σV H Q := by
  obtain ⟨w, σ, rfl, ok, sl, p⟩ := q
  refine ⟨w, σ, rfl, ok, sl, PR.bind ok p fun d st x mu H1 e1 s1 ok1 r1 p1 => ?_⟩
  refine ⟨⟨mu, st, H1, w.op⟩, σ, rfl, ok1, sl.step s1 ok, PR.bind ok1 p1 fun d2 st2 y mu2 H2 e2 s2 ok2 r2 p2 => ?_⟩
  refine hg ⟨mu2, st2, H2, w.op⟩ x y d d2 _ _ ok2 (r1.step s2 ok1) r2 (PR.bind ok2 p2 fun d3 st3 z mu3 H3 e3 s3 ok3 r3 p3 => ?_)
  cases r3 with
  | bl k =>
    refine ⟨k, rfl, ?_⟩
    cases k with
    | false => exact PR.ret (R := Rep X.K) ok3 p3 (.bl false)
    | true =>
      refine ⟨⟨mu3, st3, H3, w.op⟩, σ, rfl, ok3, ((sl.step s1 ok).step s2 ok1).step s3 ok2, PR.bind ok3 p3 fun d4 st4 u mu4 H4 e4 s4 ok4 r4 p4 => ?_⟩
      exact hg' ⟨mu4, st4, H4, w.op⟩ y u d2 d4 Q _ ok4 ((r2.step s3 ok2).step s4 ok3) r4 p4
  | _ => exact p3.elim
theorem se_chain {op op' : CmpOp} {r r' : R2} {g g' : D → D → Sto → Res D} {a b c : Expr} {ma mb mc : Em} {pos : Pos} (ho : OpR X (compareOp op) r) (ho' : OpR X (compareOp op') r') (hg : GOp X.K r g) (hg' : GOp X.K r' g') (ha : SE X W a ma) (hb : SE X W b mb) (hc : SE X W c mc)
    (hm : lastMarks [op, op'] [b, c] = false := by with_unfolding_all rfl) : SE X W (.Compare a [op, op'] [b, c] pos) (eChain g g' ma mb mc) :=
  pe_imp (pe_chain ho ho' ha hb hc hm) fun _ _ _ q => t_chain hg hg' q
theorem st_chain {op op' : CmpOp} {r r' : R2} {g g' : D → D → Sto → Res D} {a b c : Expr} {ma mb mc : Em} {pos : Pos} (ho : OpR X (compareOp op) r) (ho' : OpR X (compareOp op') r') (hg : GOp X.K r g) (hg' : GOp X.K r' g') (ha : SE X W a ma) (hb : SE X W b mb) (hc : SE X W c mc)
    (hm : lastMarks [op, op'] [b, c] = false := by with_unfolding_all rfl) : ST X W (.Compare a [op, op'] [b, c] pos) (tOf (eChain g g' ma mb mc)) :=
  pt_imp (pt_chain ho ho' ha hb hc hm) fun σV H Q q => by
    obtain ⟨w, σ, h1, ok, sl, p⟩ := t_test q
    exact t_chain hg hg' ⟨w, σ, h1, ok, sl, p⟩

/-! ### argument lists, displays -/
@[simp] def aNil : Am := fun _ st => .ok [] st
@[simp] def aCons (a : Em) (r : Am) : Am := fun σ st => (a σ st).bind fun d st1 => (r σ st1).bind fun ds st2 => .ok (d :: ds) st2
theorem sa_nil : SA X W [] aNil := pa_imp pa_nil fun σV H Q q => by
  obtain ⟨w, σ, rfl, ok, sl, p⟩ := q
  exact PR.ret (R := Reps X.K) ok p .nil
theorem sa_cons {e : Expr} {es : List Expr} {m : Em} {r : Am} (ha : SE X W e m) (hr : SA X W es r) (hs : starEach (e :: es) X.env = (false, eval e X.env) :: starEach es X.env := by rfl) : SA X W (e :: es) (aCons m r) :=
  pa_imp (pa_cons ha hr hs) fun σV H Q q => by
    obtain ⟨w, σ, rfl, ok, sl, p⟩ := q
    refine ⟨w, σ, rfl, ok, sl, PR.bind ok p fun d st x mu H1 e1 s1 ok1 r1 p1 => ?_⟩
    refine ⟨⟨mu, st, H1, w.op⟩, σ, rfl, ok1, sl.step s1 ok, PR.bind ok1 p1 fun ds st2 xs mu2 H2 e2 s2 ok2 r2 p2 => ?_⟩
    exact PR.ret (R := Reps X.K) ok2 p2 (.cons (r1.step s2 ok1) r2)
abbrev line : Nat := 16777216
theorem line_eq : sizeLine = line := sizeLine_eq
@[simp] def eTup (a : Am) : Em := fun σ st => (a σ st).bind fun ds st1 => if ds.length ≤ line then .ok (.tup ds) st1 else .bad
theorem Ok.notOp {K : Frag} {w : Wd} {p : Addr} (ok : Ok K w) (h : w.H p = none) : p ∉ w.op := fun z => (ok.opn p z).2 h
theorem rep_new_tup {K : Frag} {w : Wd} {p : Addr} {vs : List V} {ds : List D} (ok : Ok K w) (h : w.H p = none) (r : Reps K w vs ds) : Rep K (w.put p (.tup vs)) (.ref p) (.tup ds) :=
  .tup (.inl upd_same) (ok.notOp h) (r.step (put_step h) ok)
theorem rep_new_lst {K : Frag} {w : Wd} {p : Addr} {vs : List V} {ds : List D} (ok : Ok K w) (h : w.H p = none) (r : Reps K w vs ds) : Rep K (w.put p (.lst vs)) (.ref p) (.lst ds) :=
  .lst upd_same (put_live ok h) (ok.notOp h) (r.step (put_step h) ok)
/-- a result whose value is a new thing -/
theorem PR.new {K : Frag} {w : Wd} {d : D} {v : V} {Q : VK} {E : XK} {p : Addr} {o : HO} (ok : Ok K w) (h : w.H p = none) (q : PR K (Rep K) w (.ok d w.st) Q E) (r : Rep K (w.put p o) v d) : Q v (upd w.H p o) :=
  q v w.mu (upd w.H p o) (put_step h) (put_ok ok h) r
theorem se_tup {es : List Expr} {m : Am} {k : Nat} {pos : Pos} (h : SA X W es m) : SE X W (.Tuple es k pos) (eTup m) :=
  pe_imp (pe_tup h) fun σV H Q q => by
    obtain ⟨w, σ, rfl, ok, sl, p⟩ := q
    refine ⟨w, σ, rfl, ok, sl, PR.bind ok p fun ds st xs mu H1 e1 s1 ok1 r1 p1 => ?_⟩
    by_cases hl : ds.length ≤ line
    · rw [if_pos hl] at p1
      exact ⟨by rw [r1.length, line_eq]; exact hl, fun a ha => PR.new (w := ⟨mu, st, H1, w.op⟩) ok1 ha p1 (rep_new_tup ok1 ha r1)⟩
    · rw [if_neg hl] at p1; exact p1.elim
theorem PR.newRef {K : Frag} {w : Wd} {ds : List D} {xs : List V} {Q : VK} {E : XK} {p : Addr} (ok : Ok K w) (h : w.H p = none) (q : PR K (Rep K) w (.ok (.ref w.st.length) (w.st ++ [some (.lst ds)])) Q E) (r : Reps K w xs ds) : Q (.ref p) (upd w.H p (.lst xs)) := by
  refine q (.ref p) (w.mu ++ [p]) (upd w.H p (.lst xs)) (add_step h) (add_ok (u := .lst ds) ok h ⟨xs, upd_same, r.step (add_step h) ok⟩) (.ref ?_)
  show (w.mu ++ [p])[w.st.length]? = some p
  rw [← ok.len, List.getElem?_append_right (Nat.le_refl _)]
  simp
/-- a new list: by value, or (k) in the store -/
def mkL (k : Bool) (ds : List D) (st : Sto) : Res D := if ds.length ≤ line then (match k with
  | true => .ok (.ref st.length) (st ++ [some (.lst ds)])
  | false => .ok (.lst ds) st) else .bad
@[simp] theorem mkL_val (ds : List D) (st : Sto) : mkL false ds st = if ds.length ≤ line then .ok (.lst ds) st else .bad := rfl
@[simp] theorem mkL_ref (ds : List D) (st : Sto) : mkL true ds st = if ds.length ≤ line then .ok (.ref st.length) (st ++ [some (.lst ds)]) else .bad := rfl
theorem mkL_ok {K : Frag} {w : Wd} {k : Bool} {ds : List D} {vs : List V} {Q : VK} {E : XK} (ok : Ok K w) (q : PR K (Rep K) w (mkL k ds w.st) Q E) (r : Reps K w vs ds) : vs.length ≤ sizeLine ∧ ∀ p, w.H p = none → Q (.ref p) (upd w.H p (.lst vs)) := by
  unfold mkL at q
  by_cases hl : ds.length ≤ line
  · rw [if_pos hl] at q
    refine ⟨by rw [r.length, line_eq]; exact hl, fun p h => ?_⟩
    cases k with
    | true => exact PR.newRef ok h q r
    | false => exact PR.new ok h q (rep_new_lst ok h r)
  · rw [if_neg hl] at q; exact q.elim
@[simp] def eLst (k : Bool) (a : Am) : Em := fun σ st => (a σ st).bind fun ds st1 => mkL k ds st1
theorem se_lst {k : Bool} {es : List Expr} {m : Am} {pos : Pos} (h : SA X W es m) : SE X W (.List es pos) (eLst k m) :=
  pe_imp (pe_lst h) fun σV H Q q => by
    obtain ⟨w, σ, rfl, ok, sl, p⟩ := q
    refine ⟨w, σ, rfl, ok, sl, PR.bind ok p fun ds st xs mu H1 e1 s1 ok1 r1 p1 => mkL_ok (w := ⟨mu, st, H1, w.op⟩) ok1 p1 r1⟩
/-- no more changed from here on: the contents by value -/
def frzD (d : D) (st : Sto) : Res D := match d with
  | .ref n => match st[n]? with
    | some (some (.lst ds)) => .ok (.lst ds) (st.set n none)
    | some (some (.ins C fs)) => .ok (.ins C fs) (st.set n none)
    | _ => .bad
  | d => .ok d st
theorem frz_ok {K : Frag} {w : Wd} {v : V} {d : D} {Q : VK} {E : XK} (ok : Ok K w) (r : Rep K w v d) (q : PR K (Rep K) w (frzD d w.st) Q E) : Q v w.H := by
  cases r with
  | @ref a n h =>
    unfold frzD at q
    have nop : a ∉ w.op := fun z => (ok.opn a z).1 (List.mem_of_getElem? h)
    cases e : w.st[n]? with
    | none => simp only [e] at q; exact q.elim
    | some o =>
      cases o with
      | none => simp only [e] at q; exact q.elim
      | some o =>
        have ro := ok.obj n a o h e
        cases o with
        | lst ds =>
          simp only [e] at q
          obtain ⟨vs, h1, h2⟩ := ro
          exact q (.ref a) w.mu w.H kill_step (kill_ok ok) (.lst h1 (kill_live ok h) nop (h2.step (kill_step (n := n)) ok))
        | ins C fs =>
          simp only [e] at q
          obtain ⟨dx, fv, h1, h2, hc⟩ := ro
          exact q (.ref a) w.mu w.H kill_step (kill_ok ok) (.ins h1 (kill_live ok h) nop (h2.step (kill_step (n := n)) ok) hc)
  | non => exact PR.ret (R := Rep K) ok q .non
  | bl b => exact PR.ret (R := Rep K) ok q (.bl b)
  | int i => exact PR.ret (R := Rep K) ok q (.int i)
  | str z => exact PR.ret (R := Rep K) ok q (.str z)
  | ty n => exact PR.ret (R := Rep K) ok q (.ty n)
  | tup h ho hs => exact PR.ret (R := Rep K) ok q (.tup h ho hs)
  | ktup h hs => exact PR.ret (R := Rep K) ok q (.ktup h hs)
  | lst h hl ho hs => exact PR.ret (R := Rep K) ok q (.lst h hl ho hs)
  | scr h hl ho hs => exact PR.ret (R := Rep K) ok q (.scr h hl ho hs)
  | kscr h ht hs => exact PR.ret (R := Rep K) ok q (.kscr h ht hs)
  | ins h hl ho hs hc => exact PR.ret (R := Rep K) ok q (.ins h hl ho hs hc)
  | exo h h2 hl hl2 ho ho2 hs hc => exact PR.ret (R := Rep K) ok q (.exo h h2 hl hl2 ho ho2 hs hc)

/-! ### statements -/
@[simp] def RS.seq (r : RS) (f : Sl → Sto → RS) : RS := match r with
  | .nx σ st => f σ st
  | .rt d st => .rt d st
  | .bk σ st => .bk σ st
  | .ct σ st => .ct σ st
  | .exc x σ st => .exc x σ st
  | .bad => .bad
@[simp] def Res.toRS {α : Type} (r : Res α) (σ : Sl) (f : α → Sto → RS) : RS := match r with
  | .ok a st => f a st
  | .exc x st => .exc x σ st
  | .bad => .bad
@[simp] def sNil : Sm := fun σ st => .nx σ st
@[simp] def sSeq (a b : Sm) : Sm := fun σ st => (a σ st).seq b
theorem PSr.seq {K : Frag} {w : Wd} {r : RS} {f : Sl → Sto → RS} {D : Ends} {W : WX} {nx : L2.St → Hp → Prop} (ok : Ok K w) (h : PSr K w (r.seq f) D W)
    (k : ∀ σ st σV mu H, r = .nx σ st → Step w ⟨mu, st, H, w.op⟩ → Ok K ⟨mu, st, H, w.op⟩ → Slots K ⟨mu, st, H, w.op⟩ σ σV → PSr K ⟨mu, st, H, w.op⟩ (f σ st) D W → nx σV H) : PSr K w r { D with nx := nx } W := by
  cases r with
  | nx σ st => exact fun σV mu H t o q => k σ st σV mu H rfl t o q (PSr.step t ok h)
  | rt d st => exact h
  | bk σ st => exact h
  | ct σ st => exact h
  | exc x σ st => exact h
  | bad => exact h
theorem PSr.ret {K : Frag} {w : Wd} {σ : Sl} {σV : L2.St} {D : Ends} {W : WX} (ok : Ok K w) (h : PSr K w (.nx σ w.st) D W) (sl : Slots K w σ σV) : D.nx σV w.H := by
  obtain ⟨mu, st, H, op⟩ := w
  exact h σV mu H (.refl _) ok sl
/-- from a statement's result to an expression's -/
theorem PSr.toR {α β : Type} {K : Frag} {w : Wd} {R : Wd → β → α → Prop} {r : Res α} {f : α → Sto → RS} {σ : Sl} {σV : L2.St} {D : Ends} {W : WX} {Q : β → Hp → Prop} (ok : Ok K w) (sl : Slots K w σ σV) (h : PSr K w (r.toRS σ f) D W)
    (k : ∀ d st b mu H, r = .ok d st → Step w ⟨mu, st, H, w.op⟩ → Ok K ⟨mu, st, H, w.op⟩ → R ⟨mu, st, H, w.op⟩ b d → PSr K ⟨mu, st, H, w.op⟩ (f d st) D W → Q b H) : PR K R w r Q (xk W σV) := by
  cases r with
  | ok d st => exact fun b mu H t o q => k d st b mu H rfl t o q (PSr.step t ok h)
  | exc x st => exact fun c dd mu H t o q => h c dd σV mu H t o (sl.step t ok) q
  | bad => exact h
theorem sss_nil : SSs X W [] sNil := pss_imp pss_nil fun D σV H q => by
  obtain ⟨w, σ, rfl, ok, sl, p⟩ := q
  exact PSr.ret ok p sl
theorem sss_cons {s : Stmt} {r : List Stmt} {a b : Sm} (h1 : SS X W s a) (h2 : SSs X W r b) : SSs X W (s :: r) (sSeq a b) :=
  pss_imp (pss_cons h1 h2) fun D σV H q => by
    obtain ⟨w, σ, rfl, ok, sl, p⟩ := q
    exact ⟨w, σ, rfl, ok, sl, PSr.seq ok p fun σ' st' σV' mu H1 e1 s1 ok1 sl1 p1 => ⟨⟨mu, st', H1, w.op⟩, σ', rfl, ok1, sl1, p1⟩⟩
theorem sss_one {s : Stmt} {a : Sm} (h1 : SS X W s a) : SSs X W [s] a := pss_one h1
theorem ss_pass {pos : Pos} : SS X W (.Pass pos) sNil := ps_imp ps_pass fun D σV H q => by
  obtain ⟨w, σ, rfl, ok, sl, p⟩ := q
  exact PSr.ret ok p sl
@[simp] def sBreak : Sm := fun σ st => .bk σ st
@[simp] def sCont : Sm := fun σ st => .ct σ st
theorem ss_break {pos : Pos} : SS X W (.Break pos) sBreak := ps_imp ps_break fun D σV H q => by
  obtain ⟨w, σ, rfl, ok, sl, p⟩ := q
  exact p σV w.mu w.H (.refl _) ok sl
theorem ss_cont {pos : Pos} : SS X W (.Continue pos) sCont := ps_imp ps_continue fun D σV H q => by
  obtain ⟨w, σ, rfl, ok, sl, p⟩ := q
  exact p σV w.mu w.H (.refl _) ok sl
@[simp] def sRet (m : Em) : Sm := fun σ st => (m σ st).toRS σ fun d st1 => .rt d st1
theorem ss_ret {e : Expr} {m : Em} {pos : Pos} (h : SE X W e m) : SS X W (.Return (some e) pos) (sRet m) := ps_imp (ps_ret h) fun D σV H q => by
  obtain ⟨w, σ, rfl, ok, sl, p⟩ := q
  exact ⟨w, σ, rfl, ok, sl, PSr.toR ok sl p fun d st v mu H1 e1 s1 ok1 r1 p1 => p1 v mu H1 (.refl _) ok1 r1⟩
@[simp] def sRetN : Sm := fun σ st => .rt .non st
theorem ss_retN {pos : Pos} : SS X W (.Return none pos) sRetN := ps_imp ps_retN fun D σV H q => by
  obtain ⟨w, σ, rfl, ok, sl, p⟩ := q
  exact p .non w.mu w.H (.refl _) ok .non
@[simp] def sExpr (m : Em) : Sm := fun σ st => (m σ st).toRS σ fun _ st1 => .nx σ st1
theorem ss_expr {e : Expr} {m : Em} {pos : Pos} (h : SE X W e m) (hs : swapsWith e none pos.line X.env = pure false := by rfl) : SS X W (.Expr e pos) (sExpr m) := ps_imp (ps_expr h hs) fun D σV H q => by
  obtain ⟨w, σ, rfl, ok, sl, p⟩ := q
  exact ⟨w, σ, rfl, ok, sl, PSr.toR ok sl p fun d st v mu H1 e1 s1 ok1 r1 p1 => PSr.ret ok1 p1 (sl.step s1 ok)⟩
@[simp] def sIf (t : Tm) (a b : Sm) : Sm := fun σ st => (t σ st).toRS σ fun c st1 => if c = true then a σ st1 else b σ st1
theorem ss_if {t : Expr} {a b : List Stmt} {mt : Tm} {ma mb : Sm} {pos : Pos} (ht : ST X W t mt) (ha : SSs X W a ma) (hb : SSs X W b mb) : SS X W (.If t a b pos) (sIf mt ma mb) := ps_imp (ps_if ht ha hb) fun D σV H q => by
  obtain ⟨w, σ, rfl, ok, sl, p⟩ := q
  refine ⟨w, σ, rfl, ok, sl, PSr.toR ok sl p fun c st b mu H1 e1 s1 ok1 r1 p1 => ?_⟩
  subst r1
  cases b with
  | true => exact ⟨⟨mu, st, H1, w.op⟩, σ, rfl, ok1, sl.step s1 ok, p1⟩
  | false => exact ⟨⟨mu, st, H1, w.op⟩, σ, rfl, ok1, sl.step s1 ok, p1⟩
@[simp] def sSet (i : Nat) (m : Em) : Sm := fun σ st => (m σ st).toRS σ fun d st1 => .nx (σ.set i (some d)) st1
theorem ss_set {i : Nat} {x : Str} {e : Expr} {m : Em} {pos pos' : Pos} (hN : X.N.Nodup) (hi : X.N[i]? = some x) (hx : Loc X.env.scope x) (he : SE X W e m) (hs : swapsWith e (some (.Name x pos')) pos.line X.env = pure false := by rfl) (hf : X.fn x = true ∨ X.env.scope.names.lookup x = some .local := by first | exact .inl rfl | exact .inr rfl | assumption) :
    SS X W (.Assign [.Name x pos'] e pos) (sSet i m) := ps_imp (ps_set hN hi hx he hs hf) fun D σV H q => by
  obtain ⟨w, σ, rfl, ok, sl, p⟩ := q
  refine ⟨w, σ, rfl, ok, sl, PSr.toR ok sl p fun d st v mu H1 e1 s1 ok1 r1 p1 => ?_⟩
  exact PSr.ret (w := ⟨mu, st, H1, w.op⟩) ok1 p1 ((sl.step s1 ok).set r1 i)
end
end Sim

set_option Elab.async false
set_option linter.all false
set_option maxRecDepth 100000
set_option maxHeartbeats 4000000
/-! operators, defs and calls -/
namespace Sim
open PySem PySem.Spec PyProof.Rows L2

/-! ### ints -/
def iOp (f : Int → Int → D) : D → D → Sto → Res D := fun x y st => match x, y with
  | .int i, .int j => .ok (f i j) st
  | _, _ => .bad
def iOpC (c : Int → Int → Bool) (f : Int → Int → D) : D → D → Sto → Res D := fun x y st => match x, y with
  | .int i, .int j => if c i j = true then .ok (f i j) st else .bad
  | _, _ => .bad
@[simp] theorem iOp_int (f : Int → Int → D) (i j : Int) (st : Sto) : iOp f (.int i) (.int j) st = .ok (f i j) st := rfl
@[simp] theorem iOpC_int (c : Int → Int → Bool) (f : Int → Int → D) (i j : Int) (st : Sto) : iOpC c f (.int i) (.int j) st = if c i j = true then .ok (f i j) st else .bad := rfl
section
variable {K : Frag}
theorem gop_I0 {f : Int → Int → D} {g : Int → Int → V} (h : ∀ w i j, Rep K w (g i j) (f i j)) : GOp K (rI0 g) (iOp f) := by
  intro w x y dx dy Q E ok rx ry p
  cases rx with
  | int i =>
    cases ry with
    | int j => exact ⟨i, j, rfl, rfl, PR.ret (R := Rep K) ok p (h w i j)⟩
    | _ => exact p.elim
  | _ => exact p.elim
theorem gop_IC {c : Int → Int → Bool} {C : Int → Int → Prop} {f : Int → Int → D} {g : Int → Int → V} (hc : ∀ i j, c i j = true → C i j) (h : ∀ w i j, Rep K w (g i j) (f i j)) : GOp K (rI C g) (iOpC c f) := by
  intro w x y dx dy Q E ok rx ry p
  cases rx with
  | int i =>
    cases ry with
    | int j =>
      rw [iOpC_int] at p
      by_cases hh : c i j = true
      · rw [if_pos hh] at p
        exact ⟨i, j, rfl, rfl, hc i j hh, PR.ret (R := Rep K) ok p (h w i j)⟩
      · rw [if_neg hh] at p; exact p.elim
    | _ => exact p.elim
  | _ => exact p.elim
def mulOk (i j : Int) : Bool := decide (i.natAbs < 2 ^ 64) || decide (j.natAbs < 2 ^ 64) || decide (i.natAbs.log2 + j.natAbs.log2 < 100000000)
theorem mulOk_ok {i j : Int} (h : mulOk i j = true) : IntMulOk i j := by
  unfold mulOk at h
  simp only [Bool.or_eq_true, decide_eq_true_eq] at h
  rcases h with (h | h) | h
  · exact .of_left (intBits_le_64 (by omega) (by omega))
  · exact .of_right (intBits_le_64 (by omega) (by omega))
  · have b : ∀ x : Int, Builtin.Int.intBits x ≤ x.natAbs.log2 + 1 := fun x => by
      unfold Builtin.Int.intBits
      split <;> omega
    have h1 := b i
    have h2 := b j
    have e : bitsLine = 134217728 := by decide
    unfold IntMulOk
    intro z
    rw [Bool.and_eq_true] at z
    have z2 := z.2
    unfold Builtin.Int.intTooBig at z2
    have z3 := of_decide_eq_true z2
    rw [e] at z3
    omega
def divOk (_ j : Int) : Bool := decide (j ≠ 0) && decide (j.natAbs.log2 < 9000)
def powOk (i j : Int) : Bool := decide (0 ≤ j) && (decide (j ≤ 1000000) && decide (i.natAbs < 2 ^ 64))
def subI := iOp fun i j => .int (i - j)
def mulI := iOpC mulOk fun i j => .int (i * j)
def fdivI := iOpC divOk fun i j => .int (i.fdiv j)
def modI := iOpC (fun _ j => decide (j ≠ 0)) fun i j => .int (i.fmod j)
def powI := iOpC powOk fun i j => .int (i ^ j.toNat)
def shlI := iOpC powOk fun i j => .int (i * 2 ^ j.toNat)
def ltI := iOp fun i j => .bl (decide (i < j))
def leI := iOp fun i j => .bl (decide (i ≤ j))
def gtI := iOp fun i j => .bl (decide (j < i))
def geI := iOp fun i j => .bl (decide (j ≤ i))
/-- ints, texts -/
def addD : D → D → Sto → Res D := fun x y st => match x, y with
  | .int i, .int j => .ok (.int (i + j)) st
  | .str i, .str j => if i.length + j.length ≤ line then .ok (.str (i ++ j)) st else .bad
  | _, _ => .bad
@[simp] theorem addD_int (i j : Int) (st : Sto) : addD (.int i) (.int j) st = .ok (.int (i + j)) st := rfl
@[simp] theorem addD_str (i j : Str) (st : Sto) : addD (.str i) (.str j) st = if i.length + j.length ≤ line then .ok (.str (i ++ j)) st else .bad := rfl
section
variable {X : Cx} {W : WX} {a b : Expr} {ma mb : Em} {pos : Pos}
theorem op_divR : OpR X (binaryOp .FloorDiv) (rI (fun _ j => j ≠ 0 ∧ j.natAbs.log2 < 9000) fun i j => .int (i.fdiv j)) := opI fun i j _ _ _ _ _ hc q => floordiv_int hc.1 q (.inl (PyProof.noPylong_of_log2 hc.2))
theorem op_mulI : OpR X (binaryOp .Mult) (rI IntMulOk fun i j => .int (i * j)) := opI fun _ _ _ _ _ _ _ hc q => mul_int q hc
theorem se_add (ha : SE X W a ma) (hb : SE X W b mb) : SE X W (.BinOp a .Add b pos) (eBin addD ma mb) := se_bin (op_add.or op_add_str) (by
  intro w x y dx dy Q E ok rx ry p
  cases rx with
  | int i =>
    cases ry with
    | int j => exact .inl ⟨i, j, rfl, rfl, PR.ret (R := Rep X.K) ok p (.int _)⟩
    | _ => exact p.elim
  | str i =>
    cases ry with
    | str j =>
      rw [addD_str] at p
      by_cases hh : i.length + j.length ≤ line
      · rw [if_pos hh] at p
        exact .inr ⟨i, j, rfl, rfl, by rw [line_eq]; exact hh, PR.ret (R := Rep X.K) ok p (.str _)⟩
      · rw [if_neg hh] at p; exact p.elim
    | _ => exact p.elim
  | _ => exact p.elim) ha hb
theorem se_sub (ha : SE X W a ma) (hb : SE X W b mb) : SE X W (.BinOp a .Sub b pos) (eBin subI ma mb) := se_bin op_sub (gop_I0 fun _ _ _ => .int _) ha hb
theorem se_mul (ha : SE X W a ma) (hb : SE X W b mb) : SE X W (.BinOp a .Mult b pos) (eBin mulI ma mb) := se_bin op_mulI (gop_IC (fun _ _ => mulOk_ok) fun _ _ _ => .int _) ha hb
theorem se_fdiv (ha : SE X W a ma) (hb : SE X W b mb) : SE X W (.BinOp a .FloorDiv b pos) (eBin fdivI ma mb) := se_bin op_divR (gop_IC (fun _ _ h => by
  unfold divOk at h
  rw [Bool.and_eq_true, decide_eq_true_eq, decide_eq_true_eq] at h
  exact h) fun _ _ _ => .int _) ha hb
theorem se_mod (ha : SE X W a ma) (hb : SE X W b mb) : SE X W (.BinOp a .Mod b pos) (eBin modI ma mb) := se_bin op_modN (gop_IC (fun _ _ h => of_decide_eq_true h) fun _ _ _ => .int _) ha hb
theorem powOk_ok {i j : Int} (h : powOk i j = true) : CPow i j := by
  unfold powOk at h
  simp only [Bool.and_eq_true, decide_eq_true_eq] at h
  exact ⟨h.1, h.2.1, h.2.2⟩
theorem se_pow (ha : SE X W a ma) (hb : SE X W b mb) : SE X W (.BinOp a .Pow b pos) (eBin powI ma mb) := se_bin op_pow (gop_IC (fun _ _ => powOk_ok) fun _ _ _ => .int _) ha hb
theorem se_shl (ha : SE X W a ma) (hb : SE X W b mb) : SE X W (.BinOp a .LShift b pos) (eBin shlI ma mb) := se_bin op_shl (gop_IC (fun _ _ => powOk_ok) fun _ _ _ => .int _) ha hb
theorem se_lt (ha : SE X W a ma) (hb : SE X W b mb) : SE X W (.Compare a [.Lt] [b] pos) (eBin ltI ma mb) := se_cmp op_lt (gop_I0 fun _ _ _ => .bl _) ha hb (nomark _)
theorem se_le (ha : SE X W a ma) (hb : SE X W b mb) : SE X W (.Compare a [.LtE] [b] pos) (eBin leI ma mb) := se_cmp op_le (gop_I0 fun _ _ _ => .bl _) ha hb (nomark _)
theorem se_gt (ha : SE X W a ma) (hb : SE X W b mb) : SE X W (.Compare a [.Gt] [b] pos) (eBin gtI ma mb) := se_cmp op_gt (gop_I0 fun _ _ _ => .bl _) ha hb (nomark _)
theorem se_ge (ha : SE X W a ma) (hb : SE X W b mb) : SE X W (.Compare a [.GtE] [b] pos) (eBin geI ma mb) := se_cmp op_ge (gop_I0 fun _ _ _ => .bl _) ha hb (nomark _)
theorem st_lt (ha : SE X W a ma) (hb : SE X W b mb) : ST X W (.Compare a [.Lt] [b] pos) (tOf (eBin ltI ma mb)) := st_cmp op_lt (gop_I0 fun _ _ _ => .bl _) ha hb (nomark _)
theorem st_le (ha : SE X W a ma) (hb : SE X W b mb) : ST X W (.Compare a [.LtE] [b] pos) (tOf (eBin leI ma mb)) := st_cmp op_le (gop_I0 fun _ _ _ => .bl _) ha hb (nomark _)
theorem st_gt (ha : SE X W a ma) (hb : SE X W b mb) : ST X W (.Compare a [.Gt] [b] pos) (tOf (eBin gtI ma mb)) := st_cmp op_gt (gop_I0 fun _ _ _ => .bl _) ha hb (nomark _)
theorem st_ge (ha : SE X W a ma) (hb : SE X W b mb) : ST X W (.Compare a [.GtE] [b] pos) (tOf (eBin geI ma mb)) := st_cmp op_ge (gop_I0 fun _ _ _ => .bl _) ha hb (nomark _)
theorem gop_lt : GOp X.K (rI0 fun i j => .bl (decide (i < j))) ltI := gop_I0 fun _ _ _ => .bl _
theorem gop_le : GOp X.K (rI0 fun i j => .bl (decide (i ≤ j))) leI := gop_I0 fun _ _ _ => .bl _
theorem gop_gt : GOp X.K (rI0 fun i j => .bl (decide (j < i))) gtI := gop_I0 fun _ _ _ => .bl _
theorem gop_ge : GOp X.K (rI0 fun i j => .bl (decide (j ≤ i))) geI := gop_I0 fun _ _ _ => .bl _
def negI : D → Sto → Res D := fun x st => match x with
  | .int i => .ok (.int (-i)) st
  | _ => .bad
@[simp] theorem negI_int (i : Int) (st : Sto) : negI (.int i) st = .ok (.int (-i)) st := rfl
theorem se_neg (ha : SE X W a ma) : SE X W (.UnaryOp .USub a pos) (eUn negI ma) := se_un un_neg (by
  intro w x dx Q E ok rx p
  cases rx with
  | int i => exact ⟨i, rfl, PR.ret (R := Rep X.K) ok p (.int _)⟩
  | _ => exact p.elim) ha
def isN : D → D → Sto → Res D := fun x y st => match x, y with
  | .non, .non => .ok (.bl true) st
  | _, .non => .ok (.bl false) st
  | _, _ => .bad
def notN : D → D → Sto → Res D := fun x y st => match x, y with
  | .non, .non => .ok (.bl false) st
  | _, .non => .ok (.bl true) st
  | _, _ => .bad
theorem gop_isN : GOp X.K (fun x y H Q => y = .non ∧ Q (.bl (decide (x = .non))) H) isN := by
  intro w x y dx dy Q E ok rx ry p
  cases ry with
  | non => cases rx <;> exact ⟨rfl, PR.ret (R := Rep X.K) ok p (by simp; exact .bl _)⟩
  | _ => cases rx <;> exact p.elim
theorem gop_notN : GOp X.K (fun x y H Q => y = .non ∧ Q (.bl (!decide (x = .non))) H) notN := by
  intro w x y dx dy Q E ok rx ry p
  cases ry with
  | non => cases rx <;> exact ⟨rfl, PR.ret (R := Rep X.K) ok p (by simp; exact .bl _)⟩
  | _ => cases rx <;> exact p.elim
theorem se_isN (ha : SE X W a ma) (hb : SE X W b mb) : SE X W (.Compare a [.Is] [b] pos) (eBin isN ma mb) := se_cmp op_isN gop_isN ha hb (nomark _)
theorem se_notN (ha : SE X W a ma) (hb : SE X W b mb) : SE X W (.Compare a [.IsNot] [b] pos) (eBin notN ma mb) := se_cmp op_notN gop_notN ha hb (nomark _)
theorem st_isN (ha : SE X W a ma) (hb : SE X W b mb) : ST X W (.Compare a [.Is] [b] pos) (tOf (eBin isN ma mb)) := st_cmp op_isN gop_isN ha hb (nomark _)
theorem st_notN (ha : SE X W a ma) (hb : SE X W b mb) : ST X W (.Compare a [.IsNot] [b] pos) (tOf (eBin notN ma mb)) := st_cmp op_notN gop_notN ha hb (nomark _)
end
end

/-! ### == of data -/
mutual
def D.py : D → Option PyData
  | .non => some .none
  | .bl b => some (.bool b)
  | .int i => some (.int i)
  | .str s => some (.str s)
  | .tup ds => (D.pys ds).map .tuple
  | .lst ds => (D.pys ds).map .list
  | .ty _ => none
  | .ins _ _ => none
  | .ref _ => none
  | .scr _ => none
def D.pys : List D → Option (List PyData)
  | [] => some []
  | d :: ds => match D.py d, D.pys ds with
    | some a, some b => some (a :: b)
    | _, _ => none
end
def pyOf (d : D) (st : Sto) : Option PyData := match d with
  | .ref n => match st[n]? with
    | some (some (.lst ds)) => (D.pys ds).map .list
    | _ => none
  | d => d.py
section
variable {K : Frag} {w : Wd}
mutual
theorem Rep.dp : ∀ {v : V} {d : D} {p : PyData}, Rep K w v d → d.py = some p → Dp K w.H v p
  | _, _, _, .non, e => by simp [D.py] at e; subst e; exact .non
  | _, _, _, .bl b, e => by simp [D.py] at e; subst e; exact .bl b
  | _, _, _, .int i, e => by simp [D.py] at e; subst e; exact .int i
  | _, _, _, .str s, e => by simp [D.py] at e; subst e; exact .str s
  | _, _, _, .ty n, e => by simp [D.py] at e
  | _, _, _, .tup h ho hs, e => by
    simp only [D.py, Option.map_eq_some_iff] at e
    obtain ⟨ps, e1, e2⟩ := e
    subst e2
    exact .tup (.inl h) (Reps.dp hs e1)
  | _, _, _, .ktup h hs, e => by
    simp only [D.py, Option.map_eq_some_iff] at e
    obtain ⟨ps, e1, e2⟩ := e
    subst e2
    exact .tup (h _) (Reps.dp hs e1)
  | _, _, _, .lst h hl ho hs, e => by
    simp only [D.py, Option.map_eq_some_iff] at e
    obtain ⟨ps, e1, e2⟩ := e
    subst e2
    exact .lst (.inl (.inl h)) (Reps.dp hs e1)
  | _, _, _, .scr _ _ _ _, e => by simp [D.py] at e
  | _, _, _, .kscr _ _ _, e => by simp [D.py] at e
  | _, _, _, .ins _ _ _ _ _, e => by simp [D.py] at e
  | _, _, _, .exo _ _ _ _ _ _ _ _, e => by simp [D.py] at e
  | _, _, _, .ref _, e => by simp [D.py] at e
theorem Reps.dp : ∀ {vs : List V} {ds : List D} {ps : List PyData}, Reps K w vs ds → D.pys ds = some ps → DpAll K w.H vs ps
  | _, _, _, .nil, e => by simp [D.pys] at e; subst e; exact .nil
  | _, _, _, @Reps.cons _ _ _ d _ ds r t, e => by
    simp only [D.pys] at e
    cases e1 : d.py with
    | none => rw [e1] at e; cases e
    | some a =>
      cases e2 : D.pys ds with
      | none => rw [e1, e2] at e; cases e
      | some b =>
        rw [e1, e2] at e
        cases e
        exact .cons (Rep.dp r e1) (Reps.dp t e2)
end
theorem Rep.dpOf {v : V} {d : D} {p : PyData} (ok : Ok K w) (r : Rep K w v d) (e : pyOf d w.st = some p) : Dp K w.H v p := by
  cases r with
  | @ref a n h =>
    unfold pyOf at e
    cases q : w.st[n]? with
    | none => simp only [q] at e; cases e
    | some o =>
      cases o with
      | none => simp only [q] at e; cases e
      | some o =>
        cases o with
        | ins C fs => simp only [q] at e; cases e
        | lst ds =>
          simp only [q, Option.map_eq_some_iff] at e
          obtain ⟨ps, e1, e2⟩ := e
          subst e2
          obtain ⟨vs, h1, h2⟩ := ok.obj n a _ h q
          exact .lst (.inl (.inl h1)) (h2.dp e1)
  | non => exact Rep.dp .non e
  | bl b => exact Rep.dp (.bl b) e
  | int i => exact Rep.dp (.int i) e
  | str z => exact Rep.dp (.str z) e
  | ty n => exact Rep.dp (.ty n) e
  | tup h ho hs => exact Rep.dp (.tup h ho hs) e
  | ktup h hs => exact Rep.dp (.ktup h hs) e
  | lst h hl ho hs => exact Rep.dp (.lst h hl ho hs) e
  | scr h hl ho hs => exact Rep.dp (.scr h hl ho hs) e
  | kscr h ht hs => exact Rep.dp (.kscr h ht hs) e
  | ins h hl ho hs hc => exact Rep.dp (.ins h hl ho hs hc) e
  | exo h h2 hl hl2 ho ho2 hs hc => exact Rep.dp (.exo h h2 hl hl2 ho ho2 hs hc) e
end
def eqD : D → D → Sto → Res D := fun x y st => match pyOf x st, pyOf y st with
  | some a, some b => if (SeqAt.shaped a && SeqAt.shaped b) = true then .ok (.bl (PyData.eqv a b)) st else .bad
  | _, _ => .bad
def neD : D → D → Sto → Res D := fun x y st => match pyOf x st, pyOf y st with
  | some a, some b => if (SeqAt.shaped a && SeqAt.shaped b) = true then .ok (.bl (!PyData.eqv a b)) st else .bad
  | _, _ => .bad
section
variable {X : Cx} {W : WX} {a b : Expr} {ma mb : Em} {pos : Pos}
theorem gop_eq : GOp X.K (rEqD X.K) eqD := by
  intro w x y dx dy Q E ok rx ry p
  unfold eqD at p
  cases e1 : pyOf dx w.st with
  | none => rw [e1] at p; exact p.elim
  | some a =>
    cases e2 : pyOf dy w.st with
    | none => rw [e1, e2] at p; exact p.elim
    | some b =>
      rw [e1, e2] at p
      by_cases hs : (SeqAt.shaped a && SeqAt.shaped b) = true
      · simp only [if_pos hs] at p
        obtain ⟨h1, h2⟩ := Bool.and_eq_true_iff.mp hs
        exact ⟨a, b, rx.dpOf ok e1, ry.dpOf ok e2, h1, h2, PR.ret (R := Rep X.K) ok p (.bl _)⟩
      · simp only [if_neg hs] at p; exact p.elim
theorem gop_ne : GOp X.K (rNeD X.K) neD := by
  intro w x y dx dy Q E ok rx ry p
  unfold neD at p
  cases e1 : pyOf dx w.st with
  | none => rw [e1] at p; exact p.elim
  | some a =>
    cases e2 : pyOf dy w.st with
    | none => rw [e1, e2] at p; exact p.elim
    | some b =>
      rw [e1, e2] at p
      by_cases hs : (SeqAt.shaped a && SeqAt.shaped b) = true
      · simp only [if_pos hs] at p
        obtain ⟨h1, h2⟩ := Bool.and_eq_true_iff.mp hs
        exact ⟨a, b, rx.dpOf ok e1, ry.dpOf ok e2, h1, h2, PR.ret (R := Rep X.K) ok p (.bl _)⟩
      · simp only [if_neg hs] at p; exact p.elim
variable {k : Nat}
theorem se_eq (hr : Room k X.A) (ha : SE X W a ma) (hb : SE X W b mb) : SE X W (.Compare a [.Eq] [b] pos) (eBin eqD ma mb) := se_cmp (op_eqD hr.units) gop_eq ha hb (nomark _)
theorem se_ne (hr : Room k X.A) (ha : SE X W a ma) (hb : SE X W b mb) : SE X W (.Compare a [.NotEq] [b] pos) (eBin neD ma mb) := se_cmp (op_neD hr.units) gop_ne ha hb (nomark _)
theorem st_eq (hr : Room k X.A) (ha : SE X W a ma) (hb : SE X W b mb) : ST X W (.Compare a [.Eq] [b] pos) (tOf (eBin eqD ma mb)) := st_cmp (op_eqD hr.units) gop_eq ha hb (nomark _)
theorem st_ne (hr : Room k X.A) (ha : SE X W a ma) (hb : SE X W b mb) : ST X W (.Compare a [.NotEq] [b] pos) (tOf (eBin neD ma mb)) := st_cmp (op_neD hr.units) gop_ne ha hb (nomark _)
end

/-! ### defs -/
/-- at a def's end: what it made in the store and does not hand out is forgotten -/
def finR (n : Nat) (d : D) (st : Sto) : Res D := if st.length ≤ n then .ok d st else if (D.und n d && stoBelow n (st.take n)) = true then .ok d (st.take n) else .ok d st
def finX (n : Nat) (x : Exn) (st : Sto) : Res D := if (D.undF n x.fs && stoBelow n (st.take n)) = true then .exc x (st.take n) else .exc x st
def runDef (n : Nat) (body : Sm) (args : List D) (st : Sto) : Res D := match body (args.map some ++ List.replicate (n - args.length) none) st with
  | .nx _ st' => finR st.length .non st'
  | .rt d st' => finR st.length d st'
  | .exc x _ st' => finX st.length x st'
  | _ => .bad
section
variable {K : Frag} {w w' : Wd}
def Wd.cut (w : Wd) (n : Nat) : Wd := ⟨w.mu.take n, w.st.take n, w.H, w.op⟩
theorem cut_live {n : Nat} {a : Addr} (h : Live (w.cut n) a) : Live w a := by
  obtain ⟨m, o, h1, h2⟩ := h
  have h1 : (w.mu.take n)[m]? = some a := h1
  have h2 : (w.st.take n)[m]? = some (some o) := h2
  rw [List.getElem?_take] at h1 h2
  split at h1
  · rename_i hm
    rw [if_pos hm] at h2
    exact ⟨m, o, h1, h2⟩
  · cases h1
mutual
theorem Rep.cut {n : Nat} : ∀ {v : V} {d : D}, Rep K w v d → D.und n d = true → Rep K (w.cut n) v d
  | _, _, .non, _ => .non
  | _, _, .bl b, _ => .bl b
  | _, _, .int i, _ => .int i
  | _, _, .str s, _ => .str s
  | _, _, .ty n, _ => .ty n
  | _, _, .tup h ho hs, e => .tup h ho (Reps.cut hs (by simpa [D.und] using e))
  | _, _, .ktup h hs, e => .ktup h (Reps.cut hs (by simpa [D.und] using e))
  | _, _, .lst h hl ho hs, e => .lst h (fun z => hl (cut_live z)) ho (Reps.cut hs (by simpa [D.und] using e))
  | _, _, .kscr h ht hs, e => .kscr h ht (Reps.cut hs (by simpa [D.und] using e))
  | _, _, .scr h hl ho hs, e => .scr h (fun z => hl (cut_live z)) ho (Reps.cut hs (by simpa [D.und] using e))
  | _, _, .ins h hl ho hs hc, e => .ins h (fun z => hl (cut_live z)) ho (RepF.cut hs (by simpa [D.und] using e)) hc
  | _, _, .exo h h2 hl hl2 ho ho2 hs hc, e => .exo h h2 (fun z => hl (cut_live z)) (fun z => hl2 (cut_live z)) ho ho2 (RepF.cut hs (by simpa [D.und] using e)) hc
  | _, _, @Rep.ref _ _ a m h, e => .ref (by
    have hm : m < n := by simpa [D.und] using e
    show (w.mu.take n)[m]? = some a
    rw [List.getElem?_take, if_pos hm]
    exact h)
theorem Reps.cut {n : Nat} : ∀ {vs : List V} {ds : List D}, Reps K w vs ds → D.unds n ds = true → Reps K (w.cut n) vs ds
  | _, _, .nil, _ => .nil
  | _, _, .cons r t, e => by
    simp only [D.unds, Bool.and_eq_true] at e
    exact .cons (Rep.cut r e.1) (Reps.cut t e.2)
theorem RepF.cut {n : Nat} : ∀ {vs : List (Str × V)} {ds : List (Str × D)}, RepF K w vs ds → D.undF n ds = true → RepF K (w.cut n) vs ds
  | _, _, .nil, _ => .nil
  | _, _, .cons r t, e => by
    simp only [D.undF, Bool.and_eq_true] at e
    exact .cons (Rep.cut r e.1) (RepF.cut t e.2)
end
theorem cut_ok {n : Nat} (ok : Ok K w) (h : stoBelow n (w.st.take n) = true) : Ok K (w.cut n) := by
  refine ⟨by simp [Wd.cut, ok.len], ok.nd.sublist (List.take_sublist _ _), fun a ha => ok.has a (List.mem_of_mem_take ha), fun a ha => ⟨fun z => (ok.opn a ha).1 (List.mem_of_mem_take z), (ok.opn a ha).2⟩, fun m a o h1 h2 => ?_⟩
  have h1 : (w.mu.take n)[m]? = some a := h1
  have h2 : (w.st.take n)[m]? = some (some o) := h2
  have hb : O.und n o = true := by
    have := List.all_eq_true.mp h _ (List.mem_of_getElem? h2)
    exact this
  rw [List.getElem?_take] at h1 h2
  split at h1
  · rename_i hm
    rw [if_pos hm] at h2
    have r := ok.obj m a o h1 h2
    cases o with
    | lst ds =>
      obtain ⟨vs, q1, q2⟩ := r
      exact ⟨vs, q1, q2.cut hb⟩
    | ins C fs =>
      obtain ⟨dx, fv, q1, q2, hc⟩ := r
      exact ⟨dx, fv, q1, q2.cut hb, hc⟩
  · cases h1
/-- a step, and the new things of the store forgotten -/
theorem cut_step (s : Step w w') (ok : Ok K w) : Step w (w'.cut w.st.length) := by
  obtain ⟨ν, e, hν⟩ := s.ext
  refine ⟨⟨[], ?_, by simp⟩, s.keep, fun n h => ?_, ?_, s.has, s.op⟩
  · show w'.mu.take w.st.length = w.mu ++ []
    rw [e, ← ok.len, List.take_left, List.append_nil]
  · show (w'.st.take w.st.length)[n]? = some none
    rw [List.getElem?_take, if_pos (List.getElem?_eq_some_iff.mp h).1]
    exact s.dead n h
  · show w.st.length ≤ (w'.st.take w.st.length).length
    rw [List.length_take]
    have := s.len
    omega
theorem finR_ok {mu : List Addr} {d : D} {st : Sto} {H : Hp} {v : V} {Q : VK} {E : XK} (ok : Ok K w) (s : Step w ⟨mu, st, H, w.op⟩) (o : Ok K ⟨mu, st, H, w.op⟩) (r : Rep K ⟨mu, st, H, w.op⟩ v d) (p : PR K (Rep K) w (finR w.st.length d st) Q E) : Q v H := by
  unfold finR at p
  by_cases h0 : st.length ≤ w.st.length
  · rw [if_pos h0] at p
    exact p v mu H s o r
  rw [if_neg h0] at p
  by_cases h : (D.und w.st.length d && stoBelow w.st.length (st.take w.st.length)) = true
  · rw [if_pos h] at p
    obtain ⟨h1, h2⟩ := Bool.and_eq_true_iff.mp h
    exact p v (mu.take w.st.length) H (cut_step s ok) (cut_ok o h2) (r.cut h1)
  · rw [if_neg h] at p
    exact p v mu H s o r
theorem finX_ok {mu : List Addr} {x : Exn} {st : Sto} {H : Hp} {c : Value} {dd : Option Addr} {Q : VK} {E : XK} (ok : Ok K w) (s : Step w ⟨mu, st, H, w.op⟩) (o : Ok K ⟨mu, st, H, w.op⟩) (r : RepX K ⟨mu, st, H, w.op⟩ x c dd) (p : PR K (Rep K) w (finX w.st.length x st) Q E) : E c dd H := by
  unfold finX at p
  by_cases h : (D.undF w.st.length x.fs && stoBelow w.st.length (st.take w.st.length)) = true
  · rw [if_pos h] at p
    obtain ⟨h1, h2⟩ := Bool.and_eq_true_iff.mp h
    obtain ⟨q1, d, fv, q2, q3, q4, q5⟩ := r
    exact p c dd (mu.take w.st.length) H (cut_step s ok) (cut_ok o h2) ⟨q1, d, fv, q2, q3, fun z => q4 (cut_live z), q5.cut h1⟩
  · rw [if_neg h] at p
    exact p c dd mu H s o r
end
/-- an expression's value made fast: by value, and what it made in the store is forgotten -/
def eFrz (m : Em) : Em := fun σ st => match m σ st with
  | .ok d st1 => match frzD d st1 with
    | .ok d2 st2 => finR st.length d2 st2
    | .exc x st2 => .exc x st2
    | .bad => .bad
  | .exc x st1 => .exc x st1
  | .bad => .bad
theorem se_frz {X : Cx} {W : WX} {e : Expr} {m : Em} (h : SE X W e m) : SE X W e (eFrz m) :=
  pe_imp h fun σV H Q q => by
    obtain ⟨w, σ, rfl, ok, sl, p⟩ := q
    refine ⟨w, σ, rfl, ok, sl, ?_⟩
    unfold eFrz at p
    cases e1 : m σ w.st with
    | ok d st1 =>
      rw [e1] at p
      intro v mu H1 s1 ok1 r1
      refine frz_ok (w := ⟨mu, st1, H1, w.op⟩) (E := fun _ _ _ => False) ok1 r1 ?_
      show PR _ _ _ (frzD d st1) _ _
      cases e2 : frzD d st1 with
      | ok d2 st2 =>
        simp only [e2] at p
        intro v2 mu2 H2 s2 ok2 r2
        exact finR_ok ok (s1.trans s2 ok) ok2 r2 p
      | exc x st2 =>
        unfold frzD at e2
        split at e2
        · split at e2 <;> cases e2
        · cases e2
      | bad => simp only [e2] at p; exact p.elim
    | exc x st1 => rw [e1] at p; exact p
    | bad => rw [e1] at p; exact p.elim
/-- a def's promise: it does what the mirror does -/
def spM (K : Frag) (n : Nat) (m : List D → Sto → Res D) : Sp := fun vs H Q E => ∃ w ds, w.H = H ∧ Ok K w ∧ Reps K w vs ds ∧ ds.length = n ∧ PR K (Rep K) w (m ds w.st) Q E
theorem spM.len {K : Frag} {n : Nat} {m : List D → Sto → Res D} {vs : List V} {H : Hp} {Q : VK} {E : XK} (h : spM K n m vs H Q E) : vs.length = n := by
  obtain ⟨w, ds, _, _, r, l, _⟩ := h
  rw [r.length, l]
/-- the wish of a def's body -/
abbrev wOf (E : XK) : WX := fun c d _ H => E c d H
theorem start_slots {K : Frag} {w : Wd} {N : List Str} {vs : List V} {ds : List D} (r : Reps K w vs ds) : Slots K w (ds.map some ++ List.replicate (N.length - ds.length) none) (L2.start N vs) := by
  have hl := r.length
  refine ⟨by unfold L2.start; simp [hl], fun i d e => ?_⟩
  unfold L2.start
  by_cases hi : i < ds.length
  · rw [List.getElem?_append_left (by simpa using hi), List.getElem?_map] at e
    cases q : ds[i]? with
    | none => rw [q] at e; cases e
    | some x =>
      rw [q] at e
      have ex : x = d := by simpa using e
      subst ex
      obtain ⟨v, h1, h2⟩ := r.get q
      exact ⟨v, by rw [List.getElem?_append_left (by simp [hl, hi]), List.getElem?_map, h1]; rfl, h2⟩
  · rw [List.getElem?_append_right (by simpa using hi), List.getElem?_replicate] at e
    split at e <;> cases e
theorem body_reads {K : Frag} {N : List Str} {body : Sm} {n : Nat} {vs : List V} {H : Hp} {Q : VK} {E : XK} (h : spM K n (runDef N.length body) vs H Q E) : TSm K body (wOf E) { nx := fun _ H' => Q .non H', rt := Q } (L2.start N vs) H := by
  obtain ⟨w, ds, rfl, ok, r, l, p⟩ := h
  refine ⟨w, _, rfl, ok, start_slots r, ?_⟩
  unfold runDef at p
  cases e : body (ds.map some ++ List.replicate (N.length - ds.length) none) w.st with
  | nx σ st =>
    rw [e] at p
    exact fun σV mu H s o sl => finR_ok ok s o .non p
  | rt d st =>
    rw [e] at p
    exact fun v mu H s o r => finR_ok ok s o r p
  | exc x σ st =>
    rw [e] at p
    exact fun c dd σV mu H s o sl r => finX_ok ok s o r p
  | bk σ st => rw [e] at p; exact p.elim
  | ct σ st => rw [e] at p; exact p.elim
  | bad => rw [e] at p; exact p.elim
section
variable {P : Program} {wd : World} {K : Frag} {mg : Str → Option Value} {base : Heap}
abbrev CXp (P : Program) (wd : World) : CXT := L2.CX P wd
/-- a def of the text is its mirror -/
theorem fn_sim {x qual : Str} {params : Arguments} {body : List Stmt} {scope : Scope} {dvs : List V} {kws : List (Str × V)} {f : Addr} {fd : FuncData} {N ps : List Str} {k : Nat} {m : Sm}
    (F : FunD K x qual params body scope dvs kws f fd) (S : FnScope N ps scope)
    (hb : ∀ (cdv : Value) (A : Around) (outer : List Env) (s : Shared) (H : Hp) (E : XK), Room k (A.deeper (envOfC qual scope s.heap.objs.size f cdv)) →
      SSs (cxOf (CXp P wd) P wd K mg base N qual scope f cdv A outer s H E) (wOf E) body m) : FnOk P wd K mg base (CXp P wd) (k + 1) f fd ps (spM K ps.length (runDef N.length m)) :=
  F.ok S (fun vs H Q E h => h.len) fun cdv A outer s H vs Q E hr h => ⟨_, hb cdv A outer s H E hr, body_reads h⟩
end
/-! ### calls -/
section
variable {X : Cx} {W : WX} {k n : Nat} {f : Addr} {fd : FuncData} {ps : List Str} {x : Str} {p pos : Pos} {e : Expr} {es : List Expr} {ma : Am} {m : List D → Sto → Res D} {dvs : List V} {ds : List Value} {dd : List D}
@[simp] def eCall (m : List D → Sto → Res D) (a : Am) (dd : List D) : Em := fun σ st => (a σ st).bind fun as st1 => m (as ++ dd) st1
def repDflt (K : Frag) (vs : List V) (ds : List D) : Prop := ∀ w, Ok K w → Reps K w vs ds
theorem t_call (hn : ∀ ds st, m ds st ≠ .bad → ds.length = n) (hd : repDflt X.K dvs dd) {σV : L2.St} {H : Hp} {Q : VK} (q : TEm X.K (eCall m ma dd) W σV H Q) : tCallSD (spM X.K n m) dvs (WE W) (TAm X.K ma W) σV H Q := by
  obtain ⟨w, σ, rfl, ok, sl, p⟩ := q
  refine ⟨w, σ, rfl, ok, sl, PR.bind ok p fun ds st vs mu H1 e1 s1 ok1 r1 p1 => ?_⟩
  refine ⟨⟨mu, st, H1, w.op⟩, ds ++ dd, rfl, ok1, r1.append (hd _ ok1), hn _ _ (fun z => by rw [z] at p1; exact p1), p1⟩
theorem se_call (F : FnOk X.prog X.w X.K X.mg X.base (CXp X.prog X.w) k f fd ps (spM X.K n m)) (hr : Room k X.A) (hm : X.mg x = some (.ref f)) (hk : PySem.W.keepIn X.K (.ref f) = true) (hb : Binds X.K fd ps ds) (hd : Vals dvs ds) (tk : Takes X W)
    (hn : ∀ ds st, m ds st ≠ .bad → ds.length = n) (hdd : repDflt X.K dvs dd) (ha : SA X W (e :: es) ma)
    (hg : Gl X x := by rfl) (hdb : (x == ("__debug__" : Str)) = false := by decide) (he : starEach (e :: es) X.env = (false, eval e X.env) :: starEach es X.env := by rfl) (hpl : (backTo pos (starEach es X.env)).any (·.1) = false := by rfl) :
    SE X W (.Call (.Name x p) (e :: es) [] pos) (eCall m ma dd) :=
  pe_imp (pe_callSD (E := WE W) F hr hg hm hk hb hd (fun σ => passAt tk σ) ha hdb he hpl) fun _ _ _ q => t_call hn hdd q
end
end Sim

set_option Elab.async false
set_option linter.all false
set_option maxRecDepth 100000
set_option maxHeartbeats 4000000
/-! lists and tuples, loops -/
namespace Sim
open PySem PySem.Spec PyProof.Rows L2

/-! ### what a value holds -/
def itemsOf (d : D) (st : Sto) : Option (List D) := match d with
  | .tup ds => some ds
  | .lst ds => some ds
  | .scr ds => some ds
  | .ref n => match st[n]? with
    | some (some (.lst ds)) => some ds
    | _ => none
  | _ => none
@[simp] theorem itemsOf_tup (ds : List D) (st : Sto) : itemsOf (.tup ds) st = some ds := rfl
@[simp] theorem itemsOf_scr (ds : List D) (st : Sto) : itemsOf (.scr ds) st = some ds := rfl
@[simp] theorem itemsOf_lst (ds : List D) (st : Sto) : itemsOf (.lst ds) st = some ds := rfl
section
variable {K : Frag} {w : Wd}
theorem items_ok {v : V} {d : D} {ds : List D} (ok : Ok K w) (r : Rep K w v d) (e : itemsOf d w.st = some ds) : ∃ a vs, v = .ref a ∧ (SqL K w.H a vs ∨ SqT K w.H a vs) ∧ Reps K w vs ds := by
  cases r with
  | tup h ho hs => cases e; exact ⟨_, _, rfl, .inr (.inl h), hs⟩
  | ktup h hs => cases e; exact ⟨_, _, rfl, .inr (h _), hs⟩
  | lst h hl ho hs => cases e; exact ⟨_, _, rfl, .inl (.inl (.inl h)), hs⟩
  | scr h hl ho hs => cases e; exact ⟨_, _, rfl, .inl (.inl (.inr ⟨_, h⟩)), hs⟩
  | kscr h ht hs => cases e; exact ⟨_, _, rfl, .inl (h _), hs⟩
  | @ref a n h =>
    unfold itemsOf at e
    cases q : w.st[n]? with
    | none => simp only [q] at e; cases e
    | some o =>
      cases o with
      | none => simp only [q] at e; cases e
      | some o =>
        cases o with
        | ins C fs => simp only [q] at e; cases e
        | lst xs =>
          simp only [q] at e
          cases e
          obtain ⟨vs, h1, h2⟩ := ok.obj n a _ h q
          exact ⟨a, vs, rfl, .inl (.inl (.inl h1)), h2⟩
  | _ => cases e
/-- a list alone (not a tuple, not the script) -/
def listOf (d : D) (st : Sto) : Option (List D) := match d with
  | .tup _ => none
  | .scr _ => none
  | d => itemsOf d st
@[simp] theorem listOf_lst (ds : List D) (st : Sto) : listOf (.lst ds) st = some ds := rfl
theorem list_ok {v : V} {d : D} {ds : List D} (ok : Ok K w) (r : Rep K w v d) (e : listOf d w.st = some ds) : ∃ a vs, v = .ref a ∧ w.H a = some (.lst vs) ∧ Reps K w vs ds := by
  cases r with
  | tup h ho hs => cases e
  | ktup h hs => cases e
  | scr h hl ho hs => cases e
  | kscr h ht hs => cases e
  | lst h hl ho hs => cases e; exact ⟨_, _, rfl, h, hs⟩
  | @ref a n h =>
    have e : itemsOf (.ref n) w.st = some ds := e
    unfold itemsOf at e
    cases q : w.st[n]? with
    | none => simp only [q] at e; cases e
    | some o =>
      cases o with
      | none => simp only [q] at e; cases e
      | some o =>
        cases o with
        | ins C fs => simp only [q] at e; cases e
        | lst xs =>
          simp only [q] at e
          cases e
          obtain ⟨vs, h1, h2⟩ := ok.obj n a _ h q
          exact ⟨a, vs, rfl, h1, h2⟩
  | _ => cases e
theorem Reps.ixN {vs : List V} {ds : List D} {i : Int} {d : D} (r : Reps K w vs ds) (h : atI ds i = some d) : ∃ v, atI vs i = some v ∧ Rep K w v d := by
  unfold atI at h ⊢
  rw [← r.length] at h
  cases e : L2.ixN vs.length i with
  | none => rw [e] at h; cases h
  | some j =>
    rw [e] at h
    exact r.get h
end
/-- x[i] -/
def ixD : D → D → Sto → Res D := fun x y st => match y with
  | .int i => match x with
    | .str z => if z.length ≤ line then (match atI z.cps.toList i with
      | some c => .ok (.str ⟨#[c]⟩) st
      | none => .bad) else .bad
    | x => match itemsOf x st with
      | some ds => (match atI ds i with
        | some d => .ok d st
        | none => .bad)
      | none => .bad
  | _ => .bad
theorem gop_ix {X : Cx} : GOp X.K (rIx X.K) ixD := by
  intro w x y dx dy Q E ok rx ry p
  cases ry with
  | int i =>
    by_cases hs : ∃ z, dx = .str z
    · obtain ⟨z, rfl⟩ := hs
      cases rx
      unfold ixD at p
      simp only at p
      by_cases hz : z.length ≤ line
      · rw [if_pos hz] at p
        cases e : atI z.cps.toList i with
        | none => rw [e] at p; exact p.elim
        | some c =>
          rw [e] at p
          exact .inr (.inr ⟨z, i, c, rfl, rfl, by rw [line_eq]; exact hz, e, PR.ret (R := Rep X.K) ok p (.str _)⟩)
      · rw [if_neg hz] at p; exact p.elim
    · have e0 : ixD dx (.int i) w.st = (match itemsOf dx w.st with
        | some ds => (match atI ds i with
          | some d => .ok d w.st
          | none => .bad)
        | none => .bad) := by
        cases dx with
        | str z => exact absurd ⟨z, rfl⟩ hs
        | _ => rfl
      rw [e0] at p
      cases e1 : itemsOf dx w.st with
      | none => rw [e1] at p; exact p.elim
      | some ds =>
        rw [e1] at p
        simp only at p
        cases e2 : atI ds i with
        | none => rw [e2] at p; exact p.elim
        | some d =>
          rw [e2] at p
          obtain ⟨a, vs, rfl, hq, rs⟩ := items_ok ok rx e1
          obtain ⟨v, e3, r3⟩ := rs.ixN e2
          have fin : Q v w.H := PR.ret (R := Rep X.K) ok p r3
          rcases hq with hq | hq
          · exact .inl ⟨a, vs, i, v, rfl, rfl, hq, e3, fin⟩
          · exact .inr (.inl ⟨a, vs, i, v, rfl, rfl, hq, e3, fin⟩)
  | _ => exact p.elim
section
variable {X : Cx} {W : WX} {a b : Expr} {ma mb : Em} {pos : Pos}
theorem se_ix (ha : SE X W a ma) (hb : SE X W b mb) (hs : PlainIx b := by intro _ _; rfl) : SE X W (.Subscript a b pos) (eBin ixD ma mb) := pe_imp (pe_ix ix_seq ha hb hs) fun _ _ _ q => t_bin gop_ix q
end
/-! ### slices -/
def cutD (xs : List D) (lo hi : Option Int) : List D := (xs.drop (HT.sIx xs.length 0 lo)).take (HT.sIx xs.length xs.length hi - HT.sIx xs.length 0 lo)
theorem Reps.cutV {K : Frag} {w : Wd} {vs : List V} {ds : List D} (r : Reps K w vs ds) (lo hi : Option Int) : Reps K w (L2.cutV vs lo hi) (cutD ds lo hi) := by
  unfold L2.cutV cutD
  rw [r.length]
  exact (r.drop _).take _
/-- a part of a slice -/
@[simp] def pNone : Sl → Sto → Res (Option Int) := fun _ st => .ok none st
@[simp] def pSome (m : Em) : Sl → Sto → Res (Option Int) := fun σ st => (m σ st).bind fun d st1 => match d with
  | .int i => .ok (some i) st1
  | _ => .bad
abbrev Pm := Sl → Sto → Res (Option Int)
def TPm (K : Frag) (m : Pm) (W : WX) : L2.TO := fun σV H Q => ∃ w σ, w.H = H ∧ Ok K w ∧ Slots K w σ σV ∧ PR K (fun _ b c => b = c) w (m σ w.st) Q (xk W σV)
def SP (X : Cx) (W : WX) (e : Option Expr) (m : Pm) : Prop := PO X e (TPm X.K m W)
section
variable {X : Cx} {W : WX} {e : Expr} {m : Em} {lo hi : Option Expr} {ml mh : Pm} {pos p2 : Pos}
theorem sp_none : SP X W none pNone := ⟨fun pins s σV H Q I q => by
  obtain ⟨w, σ, rfl, ok, sl, p⟩ := q
  exact po_none.run pins s σV _ Q I (PR.ret (R := fun _ b c => b = c) ok p rfl)⟩
theorem sp_some (h : SE X W e m) : SP X W (some e) (pSome m) := ⟨fun pins s σV H Q I q => by
  refine (po_some h).run pins s σV H Q I ?_
  obtain ⟨w, σ, rfl, ok, sl, p⟩ := q
  refine ⟨w, σ, rfl, ok, sl, PR.bind ok p fun d st v mu H1 e1 s1 ok1 r1 p1 => ?_⟩
  cases r1 with
  | int i => exact ⟨i, rfl, PR.ret (R := fun _ b c => b = c) ok1 p1 rfl⟩
  | _ => exact p1.elim⟩
/-- x[lo:hi] of a list, a tuple, a text -/
def slD (k : Bool) (x : D) (lo hi : Option Int) (st : Sto) : Res D := match x with
  | .str z => if z.length ≤ line then .ok (.str (cutS z lo hi)) st else .bad
  | .tup ds => .ok (.tup (cutD ds lo hi)) st
  | x => match itemsOf x st with
    | some ds => mkL k (cutD ds lo hi) st
    | none => .bad
@[simp] def eSl (k : Bool) (a : Em) (l h : Pm) : Em := fun σ st => (a σ st).bind fun x st1 => (l σ st1).bind fun lo st2 => (h σ st2).bind fun hi st3 => slD k x lo hi st3
theorem cutD_all {ds : List D} {lo hi : Option Int} (h : HT.sIx ds.length 0 lo = 0 ∧ HT.sIx ds.length ds.length hi = ds.length) : cutD ds lo hi = ds := by
  unfold cutD
  rw [h.1, h.2]
  simp
theorem slD_ok {k : Bool} {w : Wd} {v : V} {d : D} {lo hi : Option Int} {Q : VK} {E : XK} (ok : Ok X.K w) (r : Rep X.K w v d) (p : PR X.K (Rep X.K) w (slD k d lo hi w.st) Q E) : rSlL X.K v lo hi w.H Q ∨ rSlA X.K v lo hi w.H Q ∨ rSlS v lo hi w.H Q := by
  have tupCase : ∀ {a : Addr} {vs : List V} {ds : List D}, SqT X.K w.H a vs → Reps X.K w vs ds → Rep X.K w (.ref a) (.tup ds) → PR X.K (Rep X.K) w (.ok (.tup (cutD ds lo hi)) w.st) Q E → rSlA X.K (.ref a) lo hi w.H Q := by
    intro a vs ds hq rs r p
    refine ⟨a, vs, rfl, hq, fun hw => ?_, fun hw q hn => ?_⟩
    · rw [rs.length] at hw
      rw [cutD_all hw] at p
      exact PR.ret (R := Rep X.K) ok p r
    · exact PR.new ok hn p (rep_new_tup ok hn (rs.cutV lo hi))
  cases r with
  | str z =>
    unfold slD at p
    simp only at p
    by_cases hz : z.length ≤ line
    · rw [if_pos hz] at p
      exact .inr (.inr ⟨z, rfl, by rw [line_eq]; exact hz, PR.ret (R := Rep X.K) ok p (.str _)⟩)
    · rw [if_neg hz] at p; exact p.elim
  | tup h ho hs => exact .inr (.inl (tupCase (.inl h) hs (.tup h ho hs) p))
  | ktup h hs => exact .inr (.inl (tupCase (h _) hs (.ktup h hs) p))
  | @lst a vs ds h hl ho hs => exact .inl ⟨a, vs, rfl, .inl (.inl h), (mkL_ok ok p (hs.cutV lo hi)).2⟩
  | @scr a o vs ds h hl ho hs => exact .inl ⟨a, vs, rfl, .inl (.inr ⟨o, h⟩), (mkL_ok ok p (hs.cutV lo hi)).2⟩
  | @kscr a vs ds h ht hs => exact .inl ⟨a, vs, rfl, h _, (mkL_ok ok p (hs.cutV lo hi)).2⟩
  | @ref a n h =>
    have e0 : slD k (.ref n) lo hi w.st = (match itemsOf (.ref n) w.st with
      | some ds => mkL k (cutD ds lo hi) w.st
      | none => .bad) := rfl
    rw [e0] at p
    cases e1 : itemsOf (.ref n) w.st with
    | none => rw [e1] at p; exact p.elim
    | some ds =>
      rw [e1] at p
      obtain ⟨b, vs, e2, hq, rs⟩ := list_ok (d := .ref n) ok (.ref h) e1
      cases e2
      exact .inl ⟨a, vs, rfl, .inl (.inl hq), (mkL_ok ok p (rs.cutV lo hi)).2⟩
  | _ => exact p.elim
theorem se_sl {k : Bool} (he : SE X W e m) (hl : SP X W lo ml) (hh : SP X W hi mh) : SE X W (.Subscript e (.Slice lo hi none p2) pos) (eSl k m ml mh) :=
  pe_imp (pe_slice (sl_list.or (sl_tupA.or sl_str)) he hl hh) fun σV H Q q => by
    obtain ⟨w, σ, rfl, ok, sl, p⟩ := q
    refine ⟨w, σ, rfl, ok, sl, PR.bind ok p fun d st v mu H1 e1 s1 ok1 r1 p1 => ?_⟩
    refine ⟨⟨mu, st, H1, w.op⟩, σ, rfl, ok1, sl.step s1 ok, PR.bind ok1 p1 fun l st2 l2 mu2 H2 e2 s2 ok2 r2 p2 => ?_⟩
    subst r2
    refine ⟨⟨mu2, st2, H2, w.op⟩, σ, rfl, ok2, (sl.step s1 ok).step s2 ok1, PR.bind ok2 p2 fun h st3 h2 mu3 H3 e3 s3 ok3 r3 p3 => ?_⟩
    subst r3
    exact slD_ok (w := ⟨mu3, st3, H3, w.op⟩) ok3 ((r1.step s2 ok1).step s3 ok2) p3
end
/-! ### targets -/
abbrev Gm := D → Sl → Option Sl
abbrev Gms := List D → Sl → Option Sl
def SG (X : Cx) (tg : Expr) (gm : Gm) : Prop := ∃ g, PG X tg g ∧ ∀ (w : Wd) (v : V) (d : D) (σ σ' : Sl) (σV : L2.St) (Q : L2.St → Hp → Prop), Ok X.K w → Rep X.K w v d → Slots X.K w σ σV → gm d σ = some σ' → (∀ σV', Slots X.K w σ' σV' → Q σV' w.H) → g v σV w.H Q
def SGs (X : Cx) (tgs : List Expr) (gm : Gms) : Prop := ∃ g, PGs X tgs g ∧ ∀ (w : Wd) (vs : List V) (ds : List D) (σ σ' : Sl) (σV : L2.St) (Q : L2.St → Hp → Prop), Ok X.K w → Reps X.K w vs ds → Slots X.K w σ σV → gm ds σ = some σ' → (∀ σV', Slots X.K w σ' σV' → Q σV' w.H) → g vs σV w.H Q
@[simp] def gN (i : Nat) : Gm := fun d σ => some (σ.set i (some d))
@[simp] def gT (n : Nat) (gs : Gms) : Gm := fun d σ => match d with
  | .tup ds => if ds.length = n then gs ds σ else none
  | _ => none
@[simp] def gsNil : Gms := fun ds σ => match ds with
  | [] => some σ
  | _ => none
@[simp] def gsCons (g : Gm) (gs : Gms) : Gms := fun ds σ => match ds with
  | d :: ds => match g d σ with
    | some σ1 => gs ds σ1
    | none => none
  | [] => none
section
variable {X : Cx}
theorem sg_name {i : Nat} {x : Str} {pos : Pos} (hN : X.N.Nodup) (hi : X.N[i]? = some x) (hx : Loc X.env.scope x) (hf : X.fn x = true ∨ X.env.scope.names.lookup x = some .local := by first | exact .inl rfl | exact .inr rfl | assumption) : SG X (.Name x pos) (gN i) :=
  ⟨gName i, pg_name hN hi hx hf, fun w v d σ σ' σV Q ok r sl e k => by
    cases e
    exact k _ (sl.set r i)⟩
theorem sgs_nil : SGs X [] gsNil := ⟨_, pgs_nil, fun w vs ds σ σ' σV Q ok r sl e k => by
  cases r with
  | nil => cases e; exact ⟨rfl, k _ sl⟩
  | cons _ _ => cases e⟩
theorem sgs_cons {e : Expr} {es : List Expr} {g : Gm} {gs : Gms} (h1 : SG X e g) (h2 : SGs X es gs) (hs : (assignEach (e :: es) X.env).map (·.2) = assign e X.env :: (assignEach es X.env).map (·.2) := by rfl) : SGs X (e :: es) (gsCons g gs) := by
  obtain ⟨g1, p1, k1⟩ := h1
  obtain ⟨g2, p2, k2⟩ := h2
  refine ⟨_, pgs_cons p1 p2 hs, fun w vs ds σ σ' σV Q ok r sl e k => ?_⟩
  cases r with
  | nil => cases e
  | @cons v d vs ds r rs =>
    simp only [gsCons] at e
    cases q : g d σ with
    | none => rw [q] at e; cases e
    | some σ1 =>
      rw [q] at e
      exact ⟨v, vs, rfl, k1 w v d σ σ1 σV _ ok r sl q fun σV1 sl1 => k2 w vs ds σ1 σ' σV1 Q ok rs sl1 e k⟩
theorem sg_tup {es : List Expr} {k : Nat} {gs : Gms} {n : Nat} {pos : Pos} (hc : X.calm = true) (h : SGs X es gs) (hn : (assignEach es X.env).length = n := by rfl) (hst : (assignEach es X.env).findIdx? (·.1) = none := by rfl) : SG X (.Tuple es k pos) (gT n gs) := by
  obtain ⟨g, p, kk⟩ := h
  refine ⟨_, pg_tup hc p hn hst, fun w v d σ σ' σV Q ok r sl e k => ?_⟩
  cases r with
  | tup h ho hs =>
    simp only [gT] at e
    split at e
    · rename_i hl
      exact ⟨_, _, rfl, .inl h, by rw [hs.length]; exact hl, kk w _ _ σ σ' σV Q ok hs sl e k⟩
    · cases e
  | ktup h hs =>
    simp only [gT] at e
    split at e
    · rename_i hl
      exact ⟨_, _, rfl, h _, by rw [hs.length]; exact hl, kk w _ _ σ σ' σV Q ok hs sl e k⟩
    · cases e
  | _ => cases e
/-- target = value -/
@[simp] def sAsg (m : Em) (g : Gm) : Sm := fun σ st => (m σ st).toRS σ fun d st1 => match g d σ with
  | some σ' => .nx σ' st1
  | none => .bad
theorem ss_asg {W : WX} {tg e : Expr} {m : Em} {g : Gm} {pos : Pos} (he : SE X W e m) (hg : SG X tg g) (hs : swapsWithSole [tg] e pos.line X.env = pure false := by rfl) (hw : swappedStores [tg] e X.env = pure none := by rfl)
    (h1 : (assignEach [tg] X.env).map (·.2) = [assign tg X.env] := by rfl) : SS X W (.Assign [tg] e pos) (sAsg m g) := by
  obtain ⟨g1, p1, k1⟩ := hg
  refine ps_imp (ps_asg he p1 hs hw h1) fun D σV H q => ?_
  obtain ⟨w, σ, rfl, ok, sl, p⟩ := q
  refine ⟨w, σ, rfl, ok, sl, PSr.toR ok sl p fun d st v mu H1 e1 s1 ok1 r1 p1 => ?_⟩
  cases q : g d σ with
  | none => rw [q] at p1; exact p1.elim
  | some σ' =>
    rw [q] at p1
    exact k1 ⟨mu, st, H1, w.op⟩ v d σ σ' σV _ ok1 r1 (sl.step s1 ok) q fun σV' sl' => PSr.ret (w := ⟨mu, st, H1, w.op⟩) ok1 p1 sl'
/-- a, b = x, y of plain local names -/
@[simp] def sPar (i j : Nat) (a b : Em) : Sm := fun σ st => (a σ st).toRS σ fun x st1 => (b σ st1).toRS σ fun y st2 => .nx ((σ.set i (some x)).set j (some y)) st2
theorem ss_par {W : WX} {i j : Nat} {x y : Str} {a b : Expr} {ma mb : Em} {px py pt pos : Pos} {kt k2 pt2} (hc : X.calm = true) (hN : X.N.Nodup) (hi : X.N[i]? = some x) (hj : X.N[j]? = some y) (hij : i ≠ j)
    (hx : X.env.scope.names.lookup x = some .local) (hy : X.env.scope.names.lookup y = some .local) (ha : SE X W a ma) (hb : SE X W b mb)
    (hw : swappedStores [.Tuple [.Name x px, .Name y py] kt pt] (.Tuple [a, b] k2 pt2) X.env = pure (some [x, y]))
    (hsa : starEach [a, b] X.env = (false, eval a X.env) :: starEach [b] X.env := by rfl) (hsb : starEach [b] X.env = (false, eval b X.env) :: starEach [] X.env := by rfl)
    (hs : swapsWithSole [.Tuple [.Name x px, .Name y py] kt pt] (.Tuple [a, b] k2 pt2) pos.line X.env = pure false := by rfl) :
    SS X W (.Assign [.Tuple [.Name x px, .Name y py] kt pt] (.Tuple [a, b] k2 pt2) pos) (sPar i j ma mb) := by
  refine ps_imp (ps_par hc hN hi hj hij hx hy (sa_cons ha (sa_cons hb sa_nil hsb) hsa) hw hs) fun D σV H q => ?_
  obtain ⟨w, σ, rfl, ok, sl, p⟩ := q
  refine ⟨w, σ, rfl, ok, sl, ?_⟩
  simp only [sPar] at p
  simp only [aCons]
  cases e1 : ma σ w.st with
  | bad => rw [e1] at p; exact p.elim
  | exc x st => rw [e1] at p; exact fun c dd mu H t o q => p c dd σV mu H t o (sl.step t ok) q
  | ok d1 st1 =>
    rw [e1] at p
    simp only [Res.toRS, Res.bind] at p ⊢
    cases e2 : mb σ st1 with
    | bad => rw [e2] at p; exact p.elim
    | exc x st => rw [e2] at p; exact fun c dd mu H t o q => p c dd σV mu H t o (sl.step t ok) q
    | ok d2 st2 =>
      rw [e2] at p
      simp only [aNil, Res.bind]
      intro vs mu H1 s1 ok1 r1
      cases r1 with
      | cons q1 t1 =>
        cases t1 with
        | cons q2 t2 =>
          cases t2
          exact ⟨_, _, rfl, p _ mu H1 s1 ok1 (((sl.step s1 ok).set q1 i).set q2 j)⟩
end
end Sim

set_option Elab.async false
set_option linter.all false
set_option maxRecDepth 100000
set_option maxHeartbeats 4000000
/-! loops -/
namespace Sim
open PySem PySem.Spec PyProof.Rows L2 RT RZ

/-- an iterator that hands out these items -/
def Wk (K : Frag) (w0 : Wd) (J : It) (items : List D) : Prop := ∃ (G : Hp → Prop) (Y : Nat → Hp → V → Hp → Prop), Walk J items.length G Y ∧ (∀ w, Step w0 w → Ok K w → G w.H) ∧
  ∀ i d w x H', items[i]? = some d → Step w0 w → Ok K w → Y i w.H x H' → ∃ w' : Wd, w'.H = H' ∧ w'.st = w.st ∧ w'.op = w.op ∧ Step w w' ∧ Ok K w' ∧ Rep K w' x d
abbrev Im := Sl → Sto → Res (List D)
def TIm (K : Frag) (m : Im) (W : WX) : TI := fun σV H R => ∃ w σ, w.H = H ∧ Ok K w ∧ Slots K w σ σV ∧ PR K (fun w J items => Wk K w J items) w (m σ w.st) R (xk W σV)
def SI (X : Cx) (W : WX) (tg iter : Expr) (m : Im) : Prop := PI X tg iter (TIm X.K m W)
theorem pi_imp {X : Cx} {tg e : Expr} {t t' : TI} (h : PI X tg e t) (i : ∀ σ H Q, t' σ H Q → t σ H Q) : PI X tg e t' := ⟨fun pins s σ H R I q => h.run pins s σ H R I (i σ H R q)⟩
section
variable {X : Cx} {W : WX} {tg : Expr} {K : Frag}
/-! ### what is walked -/
def iSeq (K : Frag) (tl : TE) : TI := fun σ H R => tl σ H fun x H1 => ∃ a, x = .ref a ∧ ((∃ xs, SqL K H1 a xs ∧ R (Itl K a) H1) ∨ (∃ xs, SqT K H1 a xs ∧ R (Itt K a) H1))
theorem pi_seq {l : Expr} {tl : TE} (hl : PE X l tl) : PI X tg l (iSeq X.K tl) := by
  refine ⟨fun pins s σ H R I h => ?_⟩
  refine thn (hl.run pins s σ H _ I h) fun v s1 ⟨x, H1, I1, r1, q1⟩ => ?_
  obtain ⟨a, e, q⟩ := q1
  subst e
  cases r1
  rcases q with ⟨xs, hq, q⟩ | ⟨xs, hq, q⟩
  · obtain ⟨its, rv, p, hz⟩ := I1.list hq
    refine wpAny_pyIter_list p.isList ?_
    refine ⟨s1.heap.objs.size, [s1.heap.objs.size], _, _, H1, rfl, I1.kept (t' := s1.toks) fun b o e => Heap.get?_push_of_some _ e, turn_list a _, ⟨_, Heap.get?_push_size _ rfl, rfl, rfl⟩, fun b hb => ?_, q⟩
    have e : b = s1.heap.objs.size := by simpa using hb
    subst e
    exact I1.fpOk (Nat.le_refl _) (I1.hok.fresh (Nat.le_refl _))
  · obtain ⟨its, rv, p, hz⟩ := I1.tuple hq
    refine wpAny_pyIter_tuple (show s1.heap.IsTuple a its.toArray from p) ?_
    refine ⟨s1.heap.objs.size, [s1.heap.objs.size], _, _, H1, rfl, I1.kept (t' := s1.toks) fun b o e => Heap.get?_push_of_some _ e, turn_tuple a _, ⟨_, Heap.get?_push_size _ rfl, rfl, rfl⟩, fun b hb => ?_, q⟩
    have e : b = s1.heap.objs.size := by simpa using hb
    subst e
    exact I1.fpOk (Nat.le_refl _) (I1.hok.fresh (Nat.le_refl _))
/-- items by value alone -/
def valItems (d : D) : Option (List D) := match d with
  | .tup ds => some ds
  | .lst ds => some ds
  | .scr ds => some ds
  | _ => none
@[simp] theorem valItems_scr (ds : List D) : valItems (.scr ds) = some ds := rfl
@[simp] theorem valItems_tup (ds : List D) : valItems (.tup ds) = some ds := rfl
@[simp] theorem valItems_lst (ds : List D) : valItems (.lst ds) = some ds := rfl
@[simp] def iVal (m : Em) : Im := fun σ st => (m σ st).bind fun d st1 => match valItems d with
  | some ds => .ok ds st1
  | none => .bad
theorem wk_same {w0 : Wd} {J : It} {items : List D} {vs : List V} {G : Hp → Prop} (hw : Walk J vs.length G (YAt vs)) (ok : Ok K w0) (rs : Reps K w0 vs items) (hG : ∀ w, Step w0 w → Ok K w → G w.H) : Wk K w0 J items := by
  refine ⟨G, YAt vs, by rw [← rs.length]; exact hw, hG, fun i d w x H' hi s o y => ?_⟩
  obtain ⟨e1, e2⟩ := y
  obtain ⟨v, h1, h2⟩ := rs.get hi
  rw [e2] at h1; cases h1
  exact ⟨w, e1.symm, rfl, rfl, .refl _, o, h2.step s ok⟩
theorem si_val {e : Expr} {m : Em} (h : SE X W e m) : SI X W tg e (iVal m) := pi_imp (pi_seq h) fun σV H R q => by
  obtain ⟨w, σ, rfl, ok, sl, p⟩ := q
  refine ⟨w, σ, rfl, ok, sl, PR.bind ok p fun d st v mu H1 e1 s1 ok1 r1 p1 => ?_⟩
  cases r1 with
  | @tup a vs ds h ho hs => exact ⟨a, rfl, .inr ⟨vs, .inl h, PR.ret (w := ⟨mu, st, H1, w.op⟩) (R := fun w J items => Wk X.K w J items) ok1 p1 (wk_same (K := X.K) walk_tup ok1 hs fun w' s o => .inl (s.rdT ok1 h))⟩⟩
  | @ktup a vs ds h hs => exact ⟨a, rfl, .inr ⟨vs, h _, PR.ret (w := ⟨mu, st, H1, w.op⟩) (R := fun w J items => Wk X.K w J items) ok1 p1 (wk_same (K := X.K) walk_tup ok1 hs fun w' s o => h _)⟩⟩
  | @lst a vs ds h hl ho hs => exact ⟨a, rfl, .inl ⟨vs, .inl (.inl h), PR.ret (w := ⟨mu, st, H1, w.op⟩) (R := fun w J items => Wk X.K w J items) ok1 p1 (wk_same (K := X.K) walk_list ok1 hs fun w' s o => .inl (.inl (s.keep _ _ h hl)))⟩⟩
  | @kscr a vs ds h ht hs => exact ⟨a, rfl, .inl ⟨vs, h _, PR.ret (w := ⟨mu, st, H1, w.op⟩) (R := fun w J items => Wk X.K w J items) ok1 p1 (wk_same (K := X.K) walk_list ok1 hs fun w' s _ => h _)⟩⟩
  | @scr a o vs ds h hl ho hs => exact ⟨a, rfl, .inl ⟨vs, .inl (.inr ⟨o, h⟩), PR.ret (w := ⟨mu, st, H1, w.op⟩) (R := fun w J items => Wk X.K w J items) ok1 p1 (wk_same (K := X.K) walk_list ok1 hs fun w' s _ => .inl (.inr ⟨o, s.keep _ _ h hl⟩))⟩⟩
  | _ => exact p1.elim
/-- lo, lo + 1, .. -/
def intsL (lo : Int) (n : Nat) : List D := (List.range n).map fun i => .int (lo + (i : Nat))
theorem intsL_get {lo : Int} {n i : Nat} {d : D} (h : (intsL lo n)[i]? = some d) : i < n ∧ d = .int (lo + (i : Nat)) := by
  unfold intsL at h
  rw [List.getElem?_map] at h
  cases q : (List.range n)[i]? with
  | none => rw [q] at h; cases h
  | some j =>
    rw [q] at h
    obtain ⟨h1, h2⟩ := List.getElem?_eq_some_iff.mp q
    simp at h1 h2 h
    subst h2
    exact ⟨h1, h.symm⟩
theorem intsL_len (lo : Int) (n : Nat) : (intsL lo n).length = n := by simp [intsL]
theorem wk_range {w0 : Wd} {lo : Int} {n : Nat} : Wk K w0 (Itr lo n) (intsL lo n) := by
  refine ⟨fun _ => True, _, by rw [intsL_len]; exact walk_range, fun _ _ _ => trivial, fun i d w x H' hi s o y => ?_⟩
  obtain ⟨e1, e2⟩ := y
  obtain ⟨_, rfl⟩ := intsL_get hi
  subst e2
  exact ⟨w, e1.symm, rfl, rfl, .refl _, o, .int _⟩
def big (i : Int) : Bool := decide (-(2 ^ 62) ≤ i) && decide (i < 2 ^ 62)
@[simp] def iRange1 (m : Am) : Im := fun σ st => (m σ st).bind fun ds st1 => match ds with
  | [.int j] => if big j = true then .ok (intsL 0 j.toNat) st1 else .bad
  | _ => .bad
@[simp] def iRange2 (m : Am) : Im := fun σ st => (m σ st).bind fun ds st1 => match ds with
  | [.int i, .int j] => if (big i && big j) = true then .ok (intsL i (j - i).toNat) st1 else .bad
  | _ => .bad
theorem si_range1 {a : Expr} {m : Am} {p pos : Pos} (hm : X.mg "range" = none) (ha : SA X W [a] m) (hg : Gl X "range" := by rfl) (hs : starEach [a] X.env = [(false, eval a X.env)] := by rfl) : SI X W tg (.Call (.Name "range" p) [a] [] pos) (iRange1 m) :=
  pi_imp (pi_range1 hg hm ha hs) fun σV H R q => by
    obtain ⟨w, σ, rfl, ok, sl, p⟩ := q
    refine ⟨w, σ, rfl, ok, sl, PR.bind ok p fun ds st vs mu H1 e1 s1 ok1 r1 p1 => ?_⟩
    cases r1 with
    | nil => exact p1.elim
    | cons r t =>
      cases t with
      | cons _ _ => cases r <;> exact p1.elim
      | nil =>
        cases r with
        | int j =>
          simp only at p1
          by_cases hb : big j = true
          · rw [if_pos hb] at p1
            unfold big at hb
            simp only [Bool.and_eq_true, decide_eq_true_eq] at hb
            exact ⟨j, rfl, hb.1, hb.2, PR.ret (w := ⟨mu, st, H1, w.op⟩) (R := fun w J items => Wk X.K w J items) ok1 p1 wk_range⟩
          · rw [if_neg hb] at p1; exact p1.elim
        | _ => exact p1.elim
theorem si_range2 {a b : Expr} {m : Am} {p pos : Pos} (hm : X.mg "range" = none) (ha : SA X W [a, b] m) (hg : Gl X "range" := by rfl) (hs : starEach [a, b] X.env = [(false, eval a X.env), (false, eval b X.env)] := by rfl) (hs2 : starEach [b] X.env = [(false, eval b X.env)] := by rfl) : SI X W tg (.Call (.Name "range" p) [a, b] [] pos) (iRange2 m) :=
  pi_imp (pi_range2 hg hm ha hs hs2) fun σV H R q => by
    obtain ⟨w, σ, rfl, ok, sl, p⟩ := q
    refine ⟨w, σ, rfl, ok, sl, PR.bind ok p fun ds st vs mu H1 e1 s1 ok1 r1 p1 => ?_⟩
    by_cases hsh : ∃ i j, ds = [.int i, .int j]
    · obtain ⟨i, j, rfl⟩ := hsh
      cases r1 with
      | cons r t =>
        cases t with
        | cons r2 t2 =>
          cases t2
          cases r
          cases r2
          simp only at p1
          by_cases hb : (big i && big j) = true
          · rw [if_pos hb] at p1
            unfold big at hb
            simp only [Bool.and_eq_true, decide_eq_true_eq] at hb
            exact ⟨i, j, rfl, ⟨hb.1.1, hb.1.2, hb.2.1, hb.2.2⟩, PR.ret (w := ⟨mu, st, H1, w.op⟩) (R := fun w J items => Wk X.K w J items) ok1 p1 wk_range⟩
          · rw [if_neg hb] at p1; exact p1.elim
    · exfalso
      revert p1
      split <;> first | (rename_i i j; exact fun _ => hsh ⟨i, j, rfl⟩) | exact fun z => z
/-- new pairs -/
theorem wk_pairs {w0 : Wd} {J : It} {n : Nat} {G : Hp → Prop} {xs ys : Nat → Option V} {items : List D} (hn : items.length = n) (hw : Walk J n G (YPair xs ys)) (hG : ∀ w, Step w0 w → Ok K w → G w.H)
    (hi : ∀ i d x y, items[i]? = some d → xs i = some x → ys i = some y → ∃ a b, d = .tup [a, b] ∧ ∀ w, Step w0 w → Ok K w → Rep K w x a ∧ Rep K w y b) : Wk K w0 J items := by
  refine ⟨G, _, by rw [hn]; exact hw, hG, fun i d w v H' hd s o y => ?_⟩
  obtain ⟨T, x, y, rfl, hT, rfl, h1, h2⟩ := y
  obtain ⟨a, b, rfl, h3⟩ := hi i d x y hd h1 h2
  obtain ⟨r1, r2⟩ := h3 w s o
  exact ⟨w.put T (.tup [x, y]), rfl, rfl, rfl, put_step hT, put_ok o hT, rep_new_tup o hT (.cons r1 (.cons r2 .nil))⟩
def enumD : Nat → List D → List D
  | _, [] => []
  | n, d :: ds => .tup [.int (n : Nat), d] :: enumD (n + 1) ds
theorem enumD_len : ∀ (n : Nat) (ds : List D), (enumD n ds).length = ds.length
  | _, [] => rfl
  | n, _ :: ds => congrArg Nat.succ (enumD_len (n + 1) ds)
theorem enumD_get : ∀ (n : Nat) (ds : List D) (i : Nat) (d : D), (enumD n ds)[i]? = some d → ∃ e, ds[i]? = some e ∧ d = .tup [.int ((n + i : Nat) : Int), e]
  | _, [], i, d, h => by simp [enumD] at h
  | n, e :: ds, 0, d, h => by
    have h : (D.tup [.int (n : Nat), e]) = d := by simpa [enumD] using h
    exact ⟨e, rfl, h.symm⟩
  | n, e :: ds, i + 1, d, h => by
    obtain ⟨x, h1, h2⟩ := enumD_get (n + 1) ds i d (by simpa [enumD] using h)
    exact ⟨x, by simpa using h1, by rw [h2, show n + 1 + i = n + (i + 1) by omega]⟩
def zipD : List D → List D → List D
  | a :: as, b :: bs => .tup [a, b] :: zipD as bs
  | _, _ => []
theorem zipD_len : ∀ (as bs : List D), (zipD as bs).length = min as.length bs.length
  | [], _ => by simp [zipD]
  | _ :: _, [] => by simp [zipD]
  | _ :: as, _ :: bs => by
    simp only [zipD, List.length_cons, zipD_len as bs]
    omega
theorem zipD_get : ∀ (as bs : List D) (i : Nat) (d : D), (zipD as bs)[i]? = some d → ∃ a b, as[i]? = some a ∧ bs[i]? = some b ∧ d = .tup [a, b]
  | [], _, i, d, h => by simp [zipD] at h
  | _ :: _, [], i, d, h => by simp [zipD] at h
  | a :: as, b :: bs, 0, d, h => by
    have h : (D.tup [a, b]) = d := by simpa [zipD] using h
    exact ⟨a, b, rfl, rfl, h.symm⟩
  | a :: as, b :: bs, i + 1, d, h => by
    obtain ⟨x, y, h1, h2, h3⟩ := zipD_get as bs i d (by simpa [zipD] using h)
    exact ⟨x, y, by simpa using h1, by simpa using h2, h3⟩
@[simp] def iEnumM (m : Am) : Im := fun σ st => (m σ st).bind fun ds st1 => match ds with
  | [.lst xs] => .ok (enumD 0 xs) st1
  | _ => .bad
theorem si_enum {e : Expr} {m : Am} {p pos tpos : Pos} {elts : List Expr} {kk : Nat} (hm : X.mg "enumerate" = none) (ha : SA X W [e] m) (hg : Gl X "enumerate" := by rfl) (hs : starEach [e] X.env = [(false, eval e X.env)] := by rfl) :
    SI X W (.Tuple elts kk tpos) (.Call (.Name "enumerate" p) [e] [] pos) (iEnumM m) :=
  pi_imp (pi_enum hg hm ha hs) fun σV H R q => by
    obtain ⟨w, σ, rfl, ok, sl, p⟩ := q
    refine ⟨w, σ, rfl, ok, sl, PR.bind ok p fun ds st vs mu H1 e1 s1 ok1 r1 p1 => ?_⟩
    by_cases hsh : ∃ xs, ds = [.lst xs]
    · obtain ⟨xs, rfl⟩ := hsh
      cases r1 with
      | cons r t =>
        cases t
        cases r with
        | @lst a us _ h hl ho hs =>
          refine ⟨a, us, rfl, .inl (.inl h), PR.ret (w := ⟨mu, st, H1, w.op⟩) (R := fun w J items => Wk X.K w J items) ok1 p1 (wk_pairs (by rw [enumD_len, hs.length]) walk_enum (fun w' s o => .inl (.inl (s.keep _ _ h hl))) fun i d x y hd hx hy => ?_)⟩
          obtain ⟨e, h1, h2⟩ := enumD_get 0 xs i d hd
          obtain ⟨u, h3, h4⟩ := hs.get h1
          rw [h3] at hy; cases hy
          cases hx
          refine ⟨.int (i : Nat), e, by rw [h2, Nat.zero_add], fun w' s o => ⟨.int _, h4.step s ok1⟩⟩
    · exfalso
      revert p1
      split <;> first | (rename_i xs; exact fun _ => hsh ⟨xs, rfl⟩) | exact fun z => z
@[simp] def iZipM (m : Am) : Im := fun σ st => (m σ st).bind fun ds st1 => match ds with
  | [.lst xs, .lst ys] => .ok (zipD xs ys) st1
  | [.tup xs, .tup ys] => .ok (zipD xs ys) st1
  | _ => .bad
theorem walk_zipT {a b : Addr} {xs ys : List V} {n : Nat} (hn : n = min xs.length ys.length) : Walk (ItzT K a b) n (fun H => SqT K H a xs ∧ SqT K H b ys) (YPair (fun i => xs[i]?) (fun i => ys[i]?)) := by
  subst hn
  refine ⟨fun i _ hi q => ?_, fun _ q => ⟨xs, ys, q.1, q.2, by omega⟩, fun i H v H' _ q y => ?_⟩
  · have h1 : i < xs.length := by omega
    have h2 : i < ys.length := by omega
    exact ⟨xs, ys, xs[i], ys[i], q.1, q.2, by simp [h1], by simp [h2]⟩
  · obtain ⟨T, x, z, h1, h2, h3, h4, h5⟩ := y
    exact ⟨T, x, z, h1, h2, h3, h4 xs q.1, h5 ys q.2⟩
/-- a tuple's contents -/
theorem tup_ok {w : Wd} {v : V} {ds : List D} (r : Rep K w v (.tup ds)) (ok : Ok K w) : ∃ a vs, v = .ref a ∧ Reps K w vs ds ∧ ∀ w', Step w w' → SqT K w'.H a vs := by
  cases r with
  | tup h ho hs => exact ⟨_, _, rfl, hs, fun w' s => .inl (s.rdT ok h)⟩
  | ktup h hs => exact ⟨_, _, rfl, hs, fun w' s => h _⟩
theorem zip_items {w1 : Wd} {us vs : List V} {xs ys : List D} (ok1 : Ok K w1) (r1 : Reps K w1 us xs) (r2 : Reps K w1 vs ys) (i : Nat) (d : D) (x y : V) (hd : (zipD xs ys)[i]? = some d) (hx : us[i]? = some x) (hy : vs[i]? = some y) :
    ∃ a b, d = .tup [a, b] ∧ ∀ w, Step w1 w → Ok K w → Rep K w x a ∧ Rep K w y b := by
  obtain ⟨a, b, h1, h2, h3⟩ := zipD_get xs ys i d hd
  obtain ⟨x', e1, q1⟩ := r1.get h1
  obtain ⟨y', e2, q2⟩ := r2.get h2
  rw [hx] at e1; cases e1
  rw [hy] at e2; cases e2
  exact ⟨a, b, h3, fun w s o => ⟨q1.step s ok1, q2.step s ok1⟩⟩
theorem si_zip {e e2 : Expr} {m : Am} {p pos tpos : Pos} {elts : List Expr} {kk : Nat} (hm : X.mg "zip" = none) (ha : SA X W [e, e2] m) (hg : Gl X "zip" := by rfl) (hs : starEach [e, e2] X.env = (false, eval e X.env) :: starEach [e2] X.env := by rfl) (hs2 : (backTo pos (starEach [e2] X.env)).any (·.1) = false := by rfl) :
    SI X W (.Tuple elts kk tpos) (.Call (.Name "zip" p) [e, e2] [] pos) (iZipM m) :=
  pi_imp (pi_zipA hg hm ha hs hs2) fun σV H R q => by
    obtain ⟨w, σ, rfl, ok, sl, p⟩ := q
    refine ⟨w, σ, rfl, ok, sl, PR.bind ok p fun ds st vs mu H1 e1 s1 ok1 r1 p1 => ?_⟩
    by_cases hsh : ∃ xs ys, ds = [.lst xs, .lst ys]
    · obtain ⟨xs, ys, rfl⟩ := hsh
      cases r1 with
      | cons r t =>
        cases t with
        | cons r2 t2 =>
          cases t2
          cases r with
          | @lst a us _ h hl ho hs =>
            cases r2 with
            | @lst b vs _ h' hl' ho' hs' =>
              exact ⟨a, b, us, vs, rfl, .inl ⟨.inl (.inl h), .inl (.inl h'), PR.ret (w := ⟨mu, st, H1, w.op⟩) (R := fun w J items => Wk X.K w J items) ok1 p1 (wk_pairs (by rw [zipD_len, hs.length, hs'.length]) (walk_zip rfl) (fun w' s o => ⟨.inl (.inl (s.keep _ _ h hl)), .inl (.inl (s.keep _ _ h' hl'))⟩) (zip_items ok1 hs hs'))⟩⟩
    · by_cases hsh2 : ∃ xs ys, ds = [.tup xs, .tup ys]
      · obtain ⟨xs, ys, rfl⟩ := hsh2
        cases r1 with
        | cons r t =>
          cases t with
          | cons r2 t2 =>
            cases t2
            obtain ⟨a, us, rfl, hs, h⟩ := tup_ok r ok1
            obtain ⟨b, vs, rfl, hs', h'⟩ := tup_ok r2 ok1
            exact ⟨a, b, us, vs, rfl, .inr ⟨h _ (.refl _), h' _ (.refl _), PR.ret (w := ⟨mu, st, H1, w.op⟩) (R := fun w J items => Wk X.K w J items) ok1 p1 (wk_pairs (by rw [zipD_len, hs.length, hs'.length]) (walk_zipT rfl) (fun w' s o => ⟨h _ s, h' _ s⟩) (zip_items ok1 hs hs'))⟩⟩
      · exfalso
        revert p1
        split <;> first | (rename_i xs ys; exact fun _ => hsh ⟨xs, ys, rfl⟩) | (rename_i xs ys; exact fun _ => hsh2 ⟨xs, ys, rfl⟩) | exact fun z => z
@[simp] def iRevM (m : Em) : Im := fun σ st => (m σ st).bind fun d st1 => match valItems d with
  | some ds => .ok ds.reverse st1
  | none => .bad
theorem wk_rev {w0 : Wd} {J : It} {items : List D} {vs : List V} {G : Hp → Prop} (hw : Walk J vs.length G (fun i H x H' => H' = H ∧ vs[vs.length - 1 - i]? = some x)) (ok : Ok K w0) (rs : Reps K w0 vs items) (hG : ∀ w, Step w0 w → Ok K w → G w.H) : Wk K w0 J items.reverse := by
  refine ⟨G, _, by rw [List.length_reverse, ← rs.length]; exact hw, hG, fun i d w x H' hi s o y => ?_⟩
  obtain ⟨e1, e2⟩ := y
  have hlt : i < items.length := by
    have := (List.getElem?_eq_some_iff.mp hi).1
    simpa using this
  rw [List.getElem?_reverse hlt] at hi
  obtain ⟨v, h1, h2⟩ := rs.get hi
  rw [← rs.length] at h1
  rw [e2] at h1; cases h1
  exact ⟨w, e1.symm, rfl, rfl, .refl _, o, h2.step s ok⟩
theorem walk_revT {a : Addr} {xs : List V} : Walk (ItvT K a xs.length) xs.length (fun H => SqT K H a xs) (fun i H x H' => H' = H ∧ xs[xs.length - 1 - i]? = some x) :=
  ⟨fun i _ hi q => ⟨hi, xs, xs[xs.length - 1 - i]'(by omega), q, by simp [show xs.length - 1 - i < xs.length by omega]⟩, fun _ _ => Nat.le_refl _, fun _ _ _ _ _ q y => ⟨y.1, y.2 xs q⟩⟩
theorem si_rev {e : Expr} {m : Em} {p pos : Pos} (hm : X.mg "reversed" = none) (ha : SE X W e m) (hg : Gl X "reversed" := by rfl) (hs : starEach [e] X.env = [(false, eval e X.env)] := by rfl) :
    SI X W tg (.Call (.Name "reversed" p) [e] [] pos) (iRevM m) :=
  pi_imp (pi_revA hg hm ha hs) fun σV H R q => by
    obtain ⟨w, σ, rfl, ok, sl, p⟩ := q
    refine ⟨w, σ, rfl, ok, sl, PR.bind ok p fun d st v mu H1 e1 s1 ok1 r1 p1 => ?_⟩
    cases r1 with
    | @tup a vs ds h ho hs => exact ⟨a, vs, rfl, .inr ⟨.inl h, PR.ret (w := ⟨mu, st, H1, w.op⟩) (R := fun w J items => Wk X.K w J items) ok1 p1 (wk_rev (K := X.K) walk_revT ok1 hs fun w' s o => .inl (s.rdT ok1 h))⟩⟩
    | @ktup a vs ds h hs => exact ⟨a, vs, rfl, .inr ⟨h _, PR.ret (w := ⟨mu, st, H1, w.op⟩) (R := fun w J items => Wk X.K w J items) ok1 p1 (wk_rev (K := X.K) walk_revT ok1 hs fun w' s o => h _)⟩⟩
    | @lst a vs ds h hl ho hs => exact ⟨a, vs, rfl, .inl ⟨.inl (.inl h), PR.ret (w := ⟨mu, st, H1, w.op⟩) (R := fun w J items => Wk X.K w J items) ok1 p1 (wk_rev (K := X.K) walk_rev ok1 hs fun w' s o => .inl (.inl (s.keep _ _ h hl)))⟩⟩
    | @kscr a vs ds h ht hs => exact ⟨a, vs, rfl, .inl ⟨h _, PR.ret (w := ⟨mu, st, H1, w.op⟩) (R := fun w J items => Wk X.K w J items) ok1 p1 (wk_rev (K := X.K) walk_rev ok1 hs fun w' s _ => h _)⟩⟩
    | @scr a o vs ds h hl ho hs => exact ⟨a, vs, rfl, .inl ⟨.inl (.inr ⟨o, h⟩), PR.ret (w := ⟨mu, st, H1, w.op⟩) (R := fun w J items => Wk X.K w J items) ok1 p1 (wk_rev (K := X.K) walk_rev ok1 hs fun w' s _ => .inl (.inr ⟨o, s.keep _ _ h hl⟩))⟩⟩
    | _ => exact p1.elim

/-! ### for -/
def forM (f : D → Sl → Sto → RS) : List D → Sl → Sto → RS
  | [], σ, st => .nx σ st
  | d :: ds, σ, st => match f d σ st with
    | .nx σ' st' => forM f ds σ' st'
    | .ct σ' st' => forM f ds σ' st'
    | .bk σ' st' => .nx σ' st'
    | .rt d' st' => .rt d' st'
    | .exc x σ' st' => .exc x σ' st'
    | .bad => .bad
def inTurn (g : Gm) (b : Sm) : D → Sl → Sto → RS := fun d σ st => match g d σ with
  | some σ' => b σ' st
  | none => .bad
@[simp] def sFor (im : Im) (g : Gm) (b : Sm) : Sm := fun σ st => (im σ st).toRS σ fun items st1 => forM (inTurn g b) items σ st1
theorem ss_for {iter : Expr} {body : List Stmt} {im : Im} {g : Gm} {b : Sm} {pos : Pos} (hp : PassesOwn (model X.prog X.w) X.A X.env X.xe) (hc : X.calm = true) (hi : SI X W tg iter im) (hg : SG X tg g) (hb : SSs X W body b)
    (hs : ∀ x, foldedSetIterable iter X.env x = pure x := by intro _; rfl) : SS X W (.For tg iter body [] pos) (sFor im g b) := by
  obtain ⟨g1, p1, k1⟩ := hg
  refine ps_imp (ps_for hp hc hi p1 hb hs) fun D σV H q => ?_
  obtain ⟨w, σ, rfl, ok, sl, p⟩ := q
  refine ⟨w, σ, rfl, ok, sl, PSr.toR ok sl p fun items st J mu H1 e1 s1 ok1 wk p2 => ?_⟩
  obtain ⟨G, Y, hw, hG, hY⟩ := wk
  refine for_it hw (fun i σV H => ∃ w2 σ2, w2.H = H ∧ Ok X.K w2 ∧ Slots X.K w2 σ2 σV ∧ Step ⟨mu, st, H1, w.op⟩ w2 ∧ PSr X.K w2 (forM (inTurn g b) (items.drop i) σ2 w2.st) D W) ?_ ?_ ?_ ?_
  · exact ⟨⟨mu, st, H1, w.op⟩, σ, rfl, ok1, sl.step s1 ok, .refl _, p2⟩
  · rintro i σV' H' hi ⟨w2, σ2, rfl, ok2, sl2, s2, p3⟩
    exact hG w2 s2 ok2
  · rintro i x σV' H' H2 hi ⟨w2, σ2, rfl, ok2, sl2, s2, p3⟩ y
    have hi2 : i < items.length := hi
    obtain ⟨w3, rfl, est, eop, s3, ok3, r3⟩ := hY i items[i] w2 x H2 (by simp [hi2]) s2 ok2 y
    rw [List.drop_eq_getElem_cons hi2] at p3
    unfold forM inTurn at p3
    cases q : g items[i] σ2 with
    | none => simp only [q] at p3; exact p3.elim
    | some σ3 =>
      simp only [q] at p3
      refine k1 w3 x items[i] σ2 σ3 σV' _ ok3 r3 (sl2.step s3 ok2) q fun σV3 sl3 => ⟨w3, σ3, rfl, ok3, sl3, ?_⟩
      have p4 := PSr.step s3 ok2 p3 eop
      rw [← est] at p4
      cases e3 : b σ3 w3.st with
      | nx σ4 st4 =>
        simp only [e3] at p4
        exact fun σV4 mu4 H4 s4 ok4 sl4 => ⟨⟨mu4, st4, H4, w3.op⟩, σ4, rfl, ok4, sl4, (s2.trans s3 (by exact ok1)).trans s4 (by exact ok1), PSr.step s4 ok3 p4⟩
      | ct σ4 st4 =>
        simp only [e3] at p4
        exact fun σV4 mu4 H4 s4 ok4 sl4 => ⟨⟨mu4, st4, H4, w3.op⟩, σ4, rfl, ok4, sl4, (s2.trans s3 (by exact ok1)).trans s4 (by exact ok1), PSr.step s4 ok3 p4⟩
      | bk σ4 st4 => simp only [e3] at p4; exact p4
      | rt d4 st4 => simp only [e3] at p4; exact p4
      | exc x4 σ4 st4 => simp only [e3] at p4; exact p4
      | bad => simp only [e3] at p4; exact p4.elim
  · rintro σV' H' ⟨w2, σ2, rfl, ok2, sl2, s2, p3⟩
    rw [List.drop_length] at p3
    exact PSr.ret ok2 p3 sl2
/-! ### while -/
def whileM (c : Tm) (b : Sm) : Nat → Sl → Sto → RS
  | 0, _, _ => .bad
  | n + 1, σ, st => match c σ st with
    | .ok true st1 => (match b σ st1 with
      | .nx σ' st' => whileM c b n σ' st'
      | .ct σ' st' => whileM c b n σ' st'
      | .bk σ' st' => .nx σ' st'
      | .rt d' st' => .rt d' st'
      | .exc x σ' st' => .exc x σ' st'
      | .bad => .bad)
    | .ok false st1 => .nx σ st1
    | .exc x st1 => .exc x σ st1
    | .bad => .bad
/-- f: more than the turns, from the slots -/
def sWhile (f : Sl → Nat) (c : Tm) (b : Sm) : Sm := fun σ st => whileM c b (f σ) σ st
theorem ss_while {c : Expr} {body : List Stmt} {f : Sl → Nat} {t : Tm} {b : Sm} {pos : Pos} (hp : PassesOwn (model X.prog X.w) X.A X.env X.xe) (hc : ST X W c t) (hb : SSs X W body b) : SS X W (.While c body [] pos) (sWhile f t b) := by
  refine ps_imp (ps_while hp hc hb) fun D σV H q => ?_
  obtain ⟨w, σ, rfl, ok, sl, p⟩ := q
  refine ⟨fun m σV H => ∃ w2 σ2, w2.H = H ∧ Ok X.K w2 ∧ Slots X.K w2 σ2 σV ∧ PSr X.K w2 (whileM t b m σ2 w2.st) D W, ⟨f σ, w, σ, rfl, ok, sl, p⟩, ?_⟩
  rintro m σV2 H2 ⟨w2, σ2, rfl, ok2, sl2, p2⟩
  cases m with
  | zero => exact p2.elim
  | succ n =>
    refine ⟨w2, σ2, rfl, ok2, sl2, ?_⟩
    unfold whileM at p2
    cases e1 : t σ2 w2.st with
    | bad => simp only [e1] at p2; exact p2.elim
    | exc x st1 =>
      simp only [e1] at p2
      exact fun c dd mu H t o q => p2 c dd σV2 mu H t o (sl2.step t ok2) q
    | ok c1 st1 =>
      intro cb mu H3 s3 ok3 ec
      subst ec
      simp only [e1] at p2
      have p3 := PSr.step s3 ok2 p2
      cases cb with
      | false =>
        simp only at p3
        exact (if_neg Bool.false_ne_true).mpr (PSr.ret (w := ⟨mu, st1, H3, w2.op⟩) ok3 p3 (sl2.step s3 ok2))
      | true =>
        simp only at p3
        refine (if_pos rfl).mpr ⟨fun σV4 H4 => ∃ m', m' < n + 1 ∧ ∃ w4 σ4, w4.H = H4 ∧ Ok X.K w4 ∧ Slots X.K w4 σ4 σV4 ∧ PSr X.K w4 (whileM t b m' σ4 w4.st) D W, fun σ' H' h => h, ⟨mu, st1, H3, w2.op⟩, σ2, rfl, ok3, sl2.step s3 ok2, ?_⟩
        show PSr _ _ (b σ2 st1) _ _
        cases e3 : b σ2 st1 with
        | nx σ4 st4 =>
          simp only [e3] at p3
          exact fun σV4 mu4 H4 s4 ok4 sl4 => ⟨n, Nat.lt_succ_self _, ⟨mu4, st4, H4, w2.op⟩, σ4, rfl, ok4, sl4, PSr.step s4 ok3 p3⟩
        | ct σ4 st4 =>
          simp only [e3] at p3
          exact fun σV4 mu4 H4 s4 ok4 sl4 => ⟨n, Nat.lt_succ_self _, ⟨mu4, st4, H4, w2.op⟩, σ4, rfl, ok4, sl4, PSr.step s4 ok3 p3⟩
        | bk σ4 st4 => simp only [e3] at p3; exact p3
        | rt d4 st4 => simp only [e3] at p3; exact p3
        | exc x4 σ4 st4 => simp only [e3] at p3; exact p3
        | bad => simp only [e3] at p3; exact p3.elim
end
end Sim

set_option Elab.async false
set_option linter.all false
set_option maxRecDepth 100000
set_option maxHeartbeats 4000000
/-! comprehensions, built-in calls, methods of lists -/
namespace Sim
open PySem PySem.Spec PyProof.Rows L2

/-! ### list comprehensions -/
def wipeD (σ : Sl) : List Nat → Sl
  | [] => σ
  | v :: vs => (wipeD σ vs).set v none
theorem Slots.wipe {K : Frag} {w : Wd} {σ : Sl} {σV : L2.St} (h : Slots K w σ σV) : ∀ own : List Nat, Slots K w (wipeD σ own) (L2.wipe σV own)
  | [] => h
  | v :: vs => (Slots.wipe h vs).del v none
/-- what a target does to the slots: those of own alone -/
def GRel (K : Frag) (own : List Nat) (g : TG) (gm : Gm) : Prop := ∀ (w : Wd) (v : V) (d : D) (σ σ' : Sl) (σV : L2.St) (Q : L2.St → Hp → Prop), Ok K w → Rep K w v d → Slots K w σ σV → gm d σ = some σ' → (∀ σV', Slots K w σ' σV' → L2.wipe σV' own = L2.wipe σV own → Q σV' w.H) → g v σV w.H Q
def GRels (K : Frag) (own : List Nat) (g : TGs) (gm : Gms) : Prop := ∀ (w : Wd) (vs : List V) (ds : List D) (σ σ' : Sl) (σV : L2.St) (Q : L2.St → Hp → Prop), Ok K w → Reps K w vs ds → Slots K w σ σV → gm ds σ = some σ' → (∀ σV', Slots K w σ' σV' → L2.wipe σV' own = L2.wipe σV own → Q σV' w.H) → g vs σV w.H Q
theorem wipe_set {σ : L2.St} {i : Nat} {x : Option V} : ∀ {own : List Nat}, i ∈ own → L2.wipe (σ.set i x) own = L2.wipe σ own
  | v :: vs, h => by
    unfold L2.wipe
    by_cases e : i = v
    · subst e
      by_cases m : i ∈ vs
      · rw [wipe_set m]
      · have q : ∀ {τ : L2.St} {ws : List Nat}, i ∉ ws → L2.wipe (τ.set i x) ws = (L2.wipe τ ws).set i x := by
          intro τ ws
          induction ws with
          | nil => intro _; rfl
          | cons u us ih =>
            intro hu
            unfold L2.wipe
            rw [ih (fun z => hu (List.mem_cons_of_mem _ z)), List.set_comm _ _ (fun z => hu (by rw [z]; exact List.mem_cons_self))]
        rw [q m, List.set_set]
    · have m : i ∈ vs := by
        rcases List.mem_cons.mp h with z | z
        · exact absurd z e
        · exact z
      rw [wipe_set m]
theorem grel_name {K : Frag} {own : List Nat} {i : Nat} (hi : i ∈ own) : GRel K own (gName i) (gN i) := fun w v d σ σ' σV Q ok r sl e k => by
  cases e
  exact k _ (sl.set r i) (wipe_set hi)
theorem grels_nil {K : Frag} {own : List Nat} : GRels K own gNil gsNil := fun w vs ds σ σ' σV Q ok r sl e k => by
  cases r with
  | nil => cases e; exact ⟨rfl, k _ sl rfl⟩
  | cons _ _ => cases e
theorem grels_cons {K : Frag} {own : List Nat} {g : TG} {gm : Gm} {gs : TGs} {gms : Gms} (h1 : GRel K own g gm) (h2 : GRels K own gs gms) : GRels K own (gCons g gs) (gsCons gm gms) := fun w vs ds σ σ' σV Q ok r sl e k => by
  cases r with
  | nil => cases e
  | @cons v d vs ds r rs =>
    simp only [gsCons] at e
    cases q : gm d σ with
    | none => rw [q] at e; cases e
    | some σ1 =>
      rw [q] at e
      exact ⟨v, vs, rfl, h1 w v d σ σ1 σV _ ok r sl q fun σV1 sl1 e1 => h2 w vs ds σ1 σ' σV1 Q ok rs sl1 e fun σV2 sl2 e2 => k σV2 sl2 (e2.trans e1)⟩
theorem grel_tup {K : Frag} {own : List Nat} {g : TGs} {gs : Gms} {n : Nat} (h : GRels K own g gs) : GRel K own (gTup K n g) (gT n gs) := fun w v d σ σ' σV Q ok r sl e k => by
  cases r with
  | tup h0 ho hs =>
    simp only [gT] at e
    split at e
    · rename_i hl
      exact ⟨_, _, rfl, .inl h0, by rw [hs.length]; exact hl, h w _ _ σ σ' σV Q ok hs sl e k⟩
    · cases e
  | ktup h0 hs =>
    simp only [gT] at e
    split at e
    · rename_i hl
      exact ⟨_, _, rfl, h0 _, by rw [hs.length]; exact hl, h w _ _ σ σ' σV Q ok hs sl e k⟩
    · cases e
  | _ => cases e
/-- item by item -/
def compM (f : D → Sto → Res (Option D)) : List D → Sto → Res (List D)
  | [], st => .ok [] st
  | d :: ds, st => match f d st with
    | .ok (some y) st1 => (match compM f ds st1 with
      | .ok ys st2 => .ok (y :: ys) st2
      | _ => .bad)
    | .ok none st1 => compM f ds st1
    | _ => .bad
/-- nothing is raised in it -/
@[simp] def Res.noX {α : Type} (r : Res α) : Res α := match r with
  | .ok a st => .ok a st
  | _ => .bad
def compF (own : List Nat) (g : Gm) (t : Tm) (e : Em) (σ : Sl) : D → Sto → Res (Option D) := fun d st => match g d (wipeD σ own) with
  | some σ2 => (match t σ2 st with
    | .ok true st2 => (match e σ2 st2 with
      | .ok y st3 => .ok (some y) st3
      | _ => .bad)
    | .ok false st2 => .ok none st2
    | _ => .bad)
  | none => .bad
@[simp] def tTrue : Tm := fun _ st => .ok true st
def eComp (k : Bool) (own : List Nat) (im : Im) (g : Gm) (t : Tm) (e : Em) : Em := fun σ st => (im σ st).bind fun items st1 => (compM (compF own g t e σ) items st1).bind fun ys st2 => mkL k ys st2
abbrev W0 : WX := fun _ _ _ _ => False
def hide (H : Hp) (a : Addr) : Hp := fun b => if b = a then none else H b
theorem hide_same {H : Hp} {a : Addr} : hide H a a = none := by unfold hide; rw [if_pos rfl]
theorem hide_ne {H : Hp} {a b : Addr} (h : b ≠ a) : hide H a b = H b := by unfold hide; rw [if_neg h]
theorem upd_hide {H : Hp} {a : Addr} {o : HO} (h : H a = some o) : upd (hide H a) a o = H := by
  funext b
  unfold upd hide
  by_cases e : b = a
  · rw [if_pos e, e, h]
  · rw [if_neg e, if_neg e]
section
variable {K : Frag}
/-- D is there, and nothing leads to it -/
def Wd.opn (w : Wd) (a : Addr) (o : HO) : Wd := ⟨w.mu, w.st, upd w.H a o, a :: w.op⟩
def Wd.cls (w : Wd) (a : Addr) (op : List Addr) : Wd := ⟨w.mu, w.st, hide w.H a, op⟩
theorem opn_step {w : Wd} {a : Addr} {o : HO} (h : w.H a = none) : Step w (w.opn a o) := by
  obtain ⟨h1, h2, h3, h4, h5, _⟩ := put_step (w := w) (o := o) h
  exact ⟨h1, h2, h3, h4, h5, ⟨[a], rfl, fun b hb => by rw [List.mem_singleton.mp hb]; exact h⟩⟩
theorem opn_ok {w : Wd} {a : Addr} {o : HO} (ok : Ok K w) (h : w.H a = none) : Ok K (w.opn a o) := by
  have p := put_ok (o := o) ok h
  refine ⟨p.len, p.nd, p.has, fun b hb => ?_, fun n b u h1 h2 => ?_⟩
  · rcases List.mem_cons.mp hb with z | z
    · rw [z]; exact ⟨ok.notMem h, by show upd w.H a o a ≠ none; rw [upd_same]; simp⟩
    · exact p.opn b z
  · have q : b ≠ a := fun z => ok.notMem h (z ▸ List.mem_of_getElem? h1)
    exact (ok.obj n b u h1 h2).step (opn_step h) ok (upd_ne q)
section
variable {w : Wd} {a : Addr} {op : List Addr}
mutual
theorem Rep.cls : ∀ {v : V} {d : D}, Rep K w v d → w.op = a :: op → Rep K (w.cls a op) v d
  | _, _, .non, _ => .non
  | _, _, .bl b, _ => .bl b
  | _, _, .int i, _ => .int i
  | _, _, .str s, _ => .str s
  | _, _, .ty n, _ => .ty n
  | _, _, @Rep.tup _ _ b _ _ h ho hs, e => by
    rw [e] at ho
    have q : b ≠ a := fun z => ho (by rw [z]; exact List.mem_cons_self)
    refine .tup ?_ (fun z => ho (List.mem_cons_of_mem _ z)) (Reps.cls hs e)
    rcases h with h | ⟨o, h⟩
    · exact .inl ((hide_ne q).trans h)
    · exact .inr ⟨o, (hide_ne q).trans h⟩
  | _, _, .ktup h hs, e => .ktup h (Reps.cls hs e)
  | _, _, @Rep.lst _ _ b _ _ h hl ho hs, e => by
    rw [e] at ho
    have q : b ≠ a := fun z => ho (by rw [z]; exact List.mem_cons_self)
    exact .lst ((hide_ne q).trans h) hl (fun z => ho (List.mem_cons_of_mem _ z)) (Reps.cls hs e)
  | _, _, .kscr h ht hs, e => .kscr h ht (Reps.cls hs e)
  | _, _, @Rep.scr _ _ b _ _ _ h hl ho hs, e => by
    rw [e] at ho
    have q : b ≠ a := fun z => ho (by rw [z]; exact List.mem_cons_self)
    exact .scr ((hide_ne q).trans h) hl (fun z => ho (List.mem_cons_of_mem _ z)) (Reps.cls hs e)
  | _, _, @Rep.ins _ _ b _ _ _ _ h hl ho hs hc, e => by
    rw [e] at ho
    have q : b ≠ a := fun z => ho (by rw [z]; exact List.mem_cons_self)
    exact .ins ((hide_ne q).trans h) hl (fun z => ho (List.mem_cons_of_mem _ z)) (RepF.cls hs e) hc
  | _, _, @Rep.exo _ _ b dx _ _ _ h h2 hl hl2 ho ho2 hs hc, e => by
    rw [e] at ho ho2
    have q : b ≠ a := fun z => ho (by rw [z]; exact List.mem_cons_self)
    have q2 : dx ≠ a := fun z => ho2 (by rw [z]; exact List.mem_cons_self)
    exact .exo ((hide_ne q).trans h) ((hide_ne q2).trans h2) hl hl2 (fun z => ho (List.mem_cons_of_mem _ z)) (fun z => ho2 (List.mem_cons_of_mem _ z)) (RepF.cls hs e) hc
  | _, _, .ref h, _ => .ref h
theorem Reps.cls : ∀ {vs : List V} {ds : List D}, Reps K w vs ds → w.op = a :: op → Reps K (w.cls a op) vs ds
  | _, _, .nil, _ => .nil
  | _, _, .cons r t, e => .cons (Rep.cls r e) (Reps.cls t e)
theorem RepF.cls : ∀ {vs : List (Str × V)} {ds : List (Str × D)}, RepF K w vs ds → w.op = a :: op → RepF K (w.cls a op) vs ds
  | _, _, .nil, _ => .nil
  | _, _, .cons r t, e => .cons (Rep.cls r e) (RepF.cls t e)
end
theorem cls_ok (ok : Ok K w) (e : w.op = a :: op) (ha : a ∉ op) : Ok K (w.cls a op) := by
  have nm : a ∉ w.mu := (ok.opn a (by rw [e]; exact List.mem_cons_self)).1
  refine ⟨ok.len, ok.nd, fun b hb => ?_, fun b hb => ?_, fun n b u h1 h2 => ?_⟩
  · have q : b ≠ a := fun z => nm (z ▸ hb)
    obtain ⟨o, h⟩ := ok.has b hb
    exact ⟨o, (hide_ne q).trans h⟩
  · have q : b ≠ a := fun z => ha (z ▸ hb)
    obtain ⟨h1, h2⟩ := ok.opn b (by rw [e]; exact List.mem_cons_of_mem _ hb)
    exact ⟨h1, by show hide w.H a b ≠ none; rw [hide_ne q]; exact h2⟩
  · have q : b ≠ a := fun z => nm (z ▸ List.mem_of_getElem? h1)
    have r := ok.obj n b u h1 h2
    cases u with
    | lst ds =>
      obtain ⟨vs, q1, q2⟩ := r
      exact ⟨vs, (hide_ne q).trans q1, q2.cls e⟩
    | ins C fs =>
      obtain ⟨dx, fv, q1, q2, hc⟩ := r
      exact ⟨dx, fv, (hide_ne q).trans q1, q2.cls e, hc⟩
end
theorem cls_step {w w2 : Wd} {a : Addr} {o : HO} (ok : Ok K w) (h : w.H a = none) (s : Step (w.opn a o) w2) : Step w (w2.cls a w.op) := by
  obtain ⟨ν, e, hν⟩ := s.ext
  refine ⟨⟨ν, e, fun b hb => ?_⟩, fun b u hb hl => ?_, fun n hn => s.dead n hn, s.len, fun b hb => ?_, ⟨[], rfl, by simp⟩⟩
  · have z := hν b hb
    have q : b ≠ a := fun q => by
      have z : upd w.H a o b = none := z
      rw [q, upd_same] at z; cases z
    exact (upd_ne q).symm.trans z
  · have q : b ≠ a := ne_of_none hb h
    have z := s.keep b u ((upd_ne q).trans hb) hl
    exact (hide_ne q).trans z
  · have q : b ≠ a := fun q => hb (by rw [q]; exact h)
    show hide w2.H a b ≠ none
    rw [hide_ne q]
    exact s.has b (by show upd w.H a o b ≠ none; rw [upd_ne q]; exact hb)
end
theorem fin_more {k : Bool} {K : Frag} {w : Wd} {f : D → Sto → Res (Option D)} {ds acc : List D} {y : D} {st : Sto} {Q : VK} {E : XK}
    (p : PR K (Rep K) w (Res.bind (match compM f ds st with
      | .ok ys st2 => .ok (y :: ys) st2
      | _ => .bad) fun ys st2 => mkL k (acc ++ ys) st2) Q E) :
    acc.length < line ∧ PR K (Rep K) w ((compM f ds st).bind fun ys st2 => mkL k (acc ++ [y] ++ ys) st2) Q E := by
  cases e : compM f ds st with
  | bad => rw [e] at p; exact p.elim
  | exc x st2 => rw [e] at p; exact p.elim
  | ok ys st2 =>
    rw [e] at p
    simp only [Res.bind] at p ⊢
    rw [show acc ++ [y] ++ ys = acc ++ y :: ys by simp]
    by_cases hl : (acc ++ y :: ys).length ≤ line
    · refine ⟨?_, p⟩
      rw [List.length_append, List.length_cons] at hl
      omega
    · unfold mkL at p
      rw [if_neg hl] at p; exact p.elim
section
variable {X : Cx} {W : WX}
theorem t_comp {k : Bool} {g : TG} {tt : TT} {own : List Nat} {im : Im} {gm : Gm} {tm : Tm} {em : Em} (hg : GRel X.K own g gm) (ht : ∀ σ H Q, TTm X.K tm W0 σ H Q → tt σ H Q) {σV : L2.St} {H : Hp} {Q : VK}
    (hq : TEm X.K (eComp k own im gm tm em) W σV H Q) : tLc (TIm X.K im W) g tt (TEm X.K em W0) own σV H Q := by
  obtain ⟨w, σ, rfl, ok, sl, p⟩ := hq
  refine ⟨w, σ, rfl, ok, sl, PR.bind ok p fun items st J mu H1 e1 s1 ok1 wk p1 => ?_⟩
  intro A hA
  obtain ⟨G, Y, hw, hG, hY⟩ := wk
  refine lc_it hw (fun i H => ∃ (w2 : Wd) (va : List V) (acc : List D), w2.op = w.op ∧ w2.H A = none ∧ H = upd w2.H A (.lst va) ∧ Ok X.K w2 ∧ Step ⟨mu, st, H1, w.op⟩ w2 ∧ Reps X.K w2 va acc ∧
    PR X.K (Rep X.K) w2 ((compM (compF own gm tm em σ) (items.drop i) w2.st).bind fun ys st2 => mkL k (acc ++ ys) st2) Q (xk W σV)) ?_ ?_ ?_ ?_
  · exact ⟨⟨mu, st, H1, w.op⟩, [], [], rfl, hA, rfl, ok1, .refl _, .nil, p1⟩
  · rintro i H' hi ⟨w2, va, acc, eop, hA2, rfl, ok2, s2, ra, p2⟩
    exact hG (w2.opn A (.lst va)) (s2.trans (opn_step hA2) (by exact ok1)) (opn_ok ok2 hA2)
  · rintro i x H' H2 hi ⟨w2, va, acc, eop, hA2, rfl, ok2, s2, ra, p2⟩ y
    have so := s2.trans (opn_step (o := .lst va) hA2) (by exact ok1)
    have oo := opn_ok (o := .lst va) ok2 hA2
    obtain ⟨w3, rfl, est, eop3, s3, ok3, r3⟩ := hY i items[i] (w2.opn A (.lst va)) x H2 (by simp [hi]) so oo y
    rw [List.drop_eq_getElem_cons hi] at p2
    unfold compM compF at p2
    cases q : gm items[i] (wipeD σ own) with
    | none => simp only [q] at p2; exact p2.elim
    | some σ3 =>
      simp only [q] at p2
      have slw : Slots X.K w3 (wipeD σ own) (L2.wipe σV own) := ((((sl.step s1 ok).step s2 ok1).step (opn_step (o := .lst va) hA2) ok2).step s3 oo).wipe own
      refine hg w3 x items[i] _ σ3 _ _ ok3 r3 slw q fun σV3 sl3 ew => ⟨?_, ht _ _ _ ⟨w3, σ3, rfl, ok3, sl3, ?_⟩⟩
      · have iw : L2.wipe (L2.wipe σV own) own = L2.wipe σV own := by
          have aux : ∀ (l : List Nat) (τ : L2.St), (∀ v ∈ l, v ∈ own) → L2.wipe (L2.wipe τ l) own = L2.wipe τ own := by
            intro l
            induction l with
            | nil => intro τ _; rfl
            | cons v vs ih =>
              intro τ hv
              rw [show L2.wipe τ (v :: vs) = (L2.wipe τ vs).set v none from rfl, wipe_set (hv v List.mem_cons_self)]
              exact ih τ fun u hu => hv u (List.mem_cons_of_mem _ hu)
          exact aux own σV fun _ h => h
        rw [ew, iw]
      · rw [est]
        show PR _ _ w3 (tm σ3 w2.st) _ _
        have w3op : w3.op = A :: w2.op := eop3
        have hA3 : A ∉ w2.op := ok2.notOp hA2
        have s23 : Step (w2.opn A (.lst va)) w3 := s3
        cases e2 : tm σ3 w2.st with
        | bad => simp only [e2] at p2; exact p2.elim
        | exc xx st4 => simp only [e2] at p2; exact p2.elim
        | ok cc st4 =>
          intro b4 mu4 H4 s4 ok4 eb
          subst eb
          simp only [e2] at p2
          have s24 : Step (w2.opn A (.lst va)) ⟨mu4, st4, H4, w3.op⟩ := s23.trans s4 oo
          cases b4 with
          | false =>
            simp only at p2
            have hD : H4 A = some (.lst va) := s24.keep A _ (by show upd w2.H A (.lst va) A = _; exact upd_same) (put_live (o := .lst va) ok2 hA2)
            have sc := cls_step ok2 hA2 s24
            refine (if_neg Bool.false_ne_true).mpr ⟨(⟨mu4, st4, H4, w3.op⟩ : Wd).cls A w2.op, va, acc, eop, hide_same, (upd_hide hD).symm, cls_ok ok4 w3op hA3, s2.trans sc (by exact ok1), ra.step sc ok2, ?_⟩
            exact PR.step sc ok2 p2
          | true =>
            simp only at p2
            refine (if_pos rfl).mpr ⟨⟨mu4, st4, H4, w3.op⟩, σ3, rfl, ok4, sl3.step s4 ok3, ?_⟩
            show PR _ _ _ (em σ3 st4) _ _
            cases e3 : em σ3 st4 with
            | bad => simp only [e3] at p2; exact p2.elim
            | exc xx st5 => simp only [e3] at p2; exact p2.elim
            | ok y5 st5 =>
              intro v5 mu5 H5 s5 ok5 r5
              simp only [e3] at p2
              have s25 : Step (w2.opn A (.lst va)) ⟨mu5, st5, H5, w3.op⟩ := s24.trans s5 oo
              have hD : H5 A = some (.lst va) := s25.keep A _ (by show upd w2.H A (.lst va) A = _; exact upd_same) (put_live (o := .lst va) ok2 hA2)
              have sc := cls_step ok2 hA2 s25
              have p3 := PR.step sc ok2 p2
              have eu : upd H5 A (.lst (va ++ [v5])) = upd (hide H5 A) A (.lst (va ++ [v5])) := by
                funext b
                unfold upd hide
                by_cases e : b = A
                · rw [if_pos e, if_pos e]
                · rw [if_neg e, if_neg e, if_neg e]
              obtain ⟨hlt, p4⟩ := fin_more p3
              refine ⟨va, hD, by rw [ra.length, line_eq]; exact hlt, (⟨mu5, st5, H5, w3.op⟩ : Wd).cls A w2.op, va ++ [v5], acc ++ [y5], eop, hide_same, eu, cls_ok ok5 w3op hA3, s2.trans sc (by exact ok1), (ra.step sc ok2).append (.cons (r5.cls w3op) .nil), p4⟩
  · rintro H' ⟨w2, va, acc, eop, hA2, rfl, ok2, s2, ra, p2⟩
    rw [List.drop_length] at p2
    simp only [compM, Res.bind, List.append_nil] at p2
    exact (mkL_ok ok2 p2 ra).2 A hA2
/-- [elt for tg in iter] -/
theorem se_comp {k : Bool} {elt tg iter : Expr} {scope : Scope} {own : List (Str × Nat)} {pos : Pos} {g : TG} {gm : Gm} {im : Im} {em : Em} (hc : X.calm = true) (hN : X.N.Nodup) (hi : SI X W tg iter im) (ok : BlkOk X.N X.env.scope scope own)
    (hg : ∀ (s : Shared) (H : Hp) (C : Addr) (cl : List (Str × Addr)) (fp : List Addr), PG (X.blk s H scope (compEnvC scope cl C X.env) fp) tg g) (hgr : GRel X.K (own.map (·.2)) g gm)
    (he : ∀ (s : Shared) (H : Hp) (C : Addr) (cl : List (Str × Addr)) (fp : List Addr), SE (X.blk s H scope (compEnvC scope cl C X.env) fp) W0 elt em) (hs : ∀ x, foldedSetIterable iter X.env x = pure x := by intro _; rfl) :
    SE X W (.ListComp elt [⟨tg, iter, [], 0⟩] scope pos) (eComp k (own.map (·.2)) im gm tTrue em) :=
  pe_imp (pe_lc (te := TEm X.K em W0) hc hN hi ok hg (fun _ _ _ _ _ => pts_nil) he hs) fun _ _ _ q => t_comp hgr (fun σ H Q z => by
    obtain ⟨w, σ, rfl, ok, sl, p⟩ := z
    exact PR.ret (R := fun _ b c => b = c) ok p rfl) q
theorem se_compIf {k : Bool} {elt tg iter c : Expr} {scope : Scope} {own : List (Str × Nat)} {pos : Pos} {g : TG} {gm : Gm} {im : Im} {em : Em} {tm : Tm} (hc : X.calm = true) (hN : X.N.Nodup) (hi : SI X W tg iter im) (ok : BlkOk X.N X.env.scope scope own)
    (hg : ∀ (s : Shared) (H : Hp) (C : Addr) (cl : List (Str × Addr)) (fp : List Addr), PG (X.blk s H scope (compEnvC scope cl C X.env) fp) tg g) (hgr : GRel X.K (own.map (·.2)) g gm)
    (ht : ∀ (s : Shared) (H : Hp) (C : Addr) (cl : List (Str × Addr)) (fp : List Addr), ST (X.blk s H scope (compEnvC scope cl C X.env) fp) W0 c tm)
    (he : ∀ (s : Shared) (H : Hp) (C : Addr) (cl : List (Str × Addr)) (fp : List Addr), SE (X.blk s H scope (compEnvC scope cl C X.env) fp) W0 elt em) (hs : ∀ x, foldedSetIterable iter X.env x = pure x := by intro _; rfl) :
    SE X W (.ListComp elt [⟨tg, iter, [c], 0⟩] scope pos) (eComp k (own.map (·.2)) im gm tm em) :=
  pe_imp (pe_lc (te := TEm X.K em W0) (tt := TTm X.K tm W0) hc hN hi ok hg (fun s H C cl fp => pts_one (t := TTm X.K tm W0) (ht s H C cl fp)) he hs) fun _ _ _ q => t_comp hgr (fun σ H Q z => z) q
/-- name = [..] on one line -/
theorem ss_setComp {k : Bool} {i : Nat} {y : Str} {py : Pos} {elt tg iter : Expr} {scope : Scope} {own : List (Str × Nat)} {pos spos : Pos} {g : TG} {gm : Gm} {im : Im} {em : Em} (hc : X.calm = true) (hN : X.N.Nodup) (hy : X.N[i]? = some y) (hyl : X.env.scope.names.lookup y = some .local)
    (hsw : swapsWith (.ListComp elt [⟨tg, iter, [], 0⟩] scope pos) (some (.Name y py)) spos.line X.env = pure true) (hi : SI X W tg iter im) (ok : BlkOk X.N X.env.scope scope own)
    (hg : ∀ (s : Shared) (H : Hp) (C : Addr) (cl : List (Str × Addr)) (fp : List Addr), PG (X.blk s H scope (compEnvC scope cl C X.env) fp) tg g) (hgr : GRel X.K (own.map (·.2)) g gm)
    (he : ∀ (s : Shared) (H : Hp) (C : Addr) (cl : List (Str × Addr)) (fp : List Addr), SE (X.blk s H scope (compEnvC scope cl C X.env) fp) W0 elt em) (hs : ∀ x, foldedSetIterable iter X.env x = pure x := by intro _; rfl) :
    SS X W (.Assign [.Name y py] (.ListComp elt [⟨tg, iter, [], 0⟩] scope pos) spos) (sSet i (eComp k (own.map (·.2)) im gm tTrue em)) :=
  ps_imp (ps_setLc (te := TEm X.K em W0) hc hN hy hyl hsw hi ok hg (fun _ _ _ _ _ => pts_nil) he hs) fun D σV H q => by
    obtain ⟨w, σ, rfl, ok, sl, p⟩ := q
    refine t_comp hgr (fun σ H Q z => by
      obtain ⟨w, σ, rfl, ok, sl, p⟩ := z
      exact PR.ret (R := fun _ b c => b = c) ok p rfl) (k := k) ⟨w, σ, rfl, ok, sl, PSr.toR ok sl p fun d st v mu H1 e1 s1 ok1 r1 p1 => ?_⟩
    exact PSr.ret (w := ⟨mu, st, H1, w.op⟩) ok1 p1 ((sl.step s1 ok).set r1 i)
theorem ss_setCompIf {k : Bool} {i : Nat} {y : Str} {py : Pos} {elt tg iter c : Expr} {scope : Scope} {own : List (Str × Nat)} {pos spos : Pos} {g : TG} {gm : Gm} {im : Im} {em : Em} {tm : Tm} (hc : X.calm = true) (hN : X.N.Nodup) (hy : X.N[i]? = some y) (hyl : X.env.scope.names.lookup y = some .local)
    (hsw : swapsWith (.ListComp elt [⟨tg, iter, [c], 0⟩] scope pos) (some (.Name y py)) spos.line X.env = pure true) (hi : SI X W tg iter im) (ok : BlkOk X.N X.env.scope scope own)
    (hg : ∀ (s : Shared) (H : Hp) (C : Addr) (cl : List (Str × Addr)) (fp : List Addr), PG (X.blk s H scope (compEnvC scope cl C X.env) fp) tg g) (hgr : GRel X.K (own.map (·.2)) g gm)
    (ht : ∀ (s : Shared) (H : Hp) (C : Addr) (cl : List (Str × Addr)) (fp : List Addr), ST (X.blk s H scope (compEnvC scope cl C X.env) fp) W0 c tm)
    (he : ∀ (s : Shared) (H : Hp) (C : Addr) (cl : List (Str × Addr)) (fp : List Addr), SE (X.blk s H scope (compEnvC scope cl C X.env) fp) W0 elt em) (hs : ∀ x, foldedSetIterable iter X.env x = pure x := by intro _; rfl) :
    SS X W (.Assign [.Name y py] (.ListComp elt [⟨tg, iter, [c], 0⟩] scope pos) spos) (sSet i (eComp k (own.map (·.2)) im gm tm em)) :=
  ps_imp (ps_setLc (te := TEm X.K em W0) (tt := TTm X.K tm W0) hc hN hy hyl hsw hi ok hg (fun s H C cl fp => pts_one (t := TTm X.K tm W0) (ht s H C cl fp)) he hs) fun D σV H q => by
    obtain ⟨w, σ, rfl, ok, sl, p⟩ := q
    refine t_comp hgr (fun σ H Q z => z) (k := k) ⟨w, σ, rfl, ok, sl, PSr.toR ok sl p fun d st v mu H1 e1 s1 ok1 r1 p1 => ?_⟩
    exact PSr.ret (w := ⟨mu, st, H1, w.op⟩) ok1 p1 ((sl.step s1 ok).set r1 i)
end
end Sim

set_option Elab.async false
set_option linter.all false
set_option maxRecDepth 100000
set_option maxHeartbeats 4000000
/-! built-in calls, methods of lists and texts -/
namespace Sim
open PySem PySem.Spec PyProof.Rows L2

/-! ### built-in functions and types -/
def GC (K : Frag) (r : List V → Hp → VK → Prop) (g : List D → Sto → Res D) : Prop := ∀ (w : Wd) (xs : List V) (ds : List D) (Q : VK) (E : XK), Ok K w → Reps K w xs ds → PR K (Rep K) w (g ds w.st) Q E → r xs w.H Q
@[simp] def eCB (g : List D → Sto → Res D) (a : Am) : Em := fun σ st => (a σ st).bind fun ds st1 => g ds st1
section
variable {X : Cx} {W : WX} {x : Str} {p pos : Pos} {e : Expr} {es : List Expr} {id T : String} {r : List V → Hp → VK → Prop} {g : List D → Sto → Res D} {ma : Am}
theorem t_cb (hg : GC X.K r g) {σV : L2.St} {H : Hp} {Q : VK} (q : TEm X.K (eCB g ma) W σV H Q) : tCB r (TAm X.K ma W) σV H Q := by
  obtain ⟨w, σ, rfl, ok, sl, p⟩ := q
  refine ⟨w, σ, rfl, ok, sl, PR.bind ok p fun ds st xs mu H1 e1 s1 ok1 r1 p1 => ?_⟩
  exact hg ⟨mu, st, H1, w.op⟩ xs ds Q _ ok1 r1 p1
theorem se_cb (hc : CallR X (.builtin id) r) (hg : GC X.K r g) (hm : X.mg x = none) (ha : SA X W (e :: es) ma) (hv : bootBuiltins x = some (.builtin id) := by decide +kernel) (hgl : Gl X x := by rfl) (hn : x ≠ "__name__" := by decide) (hdb : (x == ("__debug__" : Str)) = false := by decide)
    (he : starEach (e :: es) X.env = (false, eval e X.env) :: starEach es X.env := by rfl) (hpl : (backTo pos (starEach es X.env)).any (·.1) = false := by rfl) : SE X W (.Call (.Name x p) (e :: es) [] pos) (eCB g ma) :=
  pe_imp (pe_callB hc hgl hm hv ha hn hdb he hpl) fun _ _ _ q => t_cb hg q
theorem se_cty (hc : CallR X (.type T) r) (hg : GC X.K r g) (hm : X.mg x = none) (ha : SA X W (e :: es) ma) (hv : bootBuiltins x = some (.type T) := by decide +kernel) (hgl : Gl X x := by rfl) (hn : x ≠ "__name__" := by decide) (hdb : (x == ("__debug__" : Str)) = false := by decide)
    (he : starEach (e :: es) X.env = (false, eval e X.env) :: starEach es X.env := by rfl) (hpl : (backTo pos (starEach es X.env)).any (·.1) = false := by rfl) : SE X W (.Call (.Name x p) (e :: es) [] pos) (eCB g ma) :=
  pe_imp (pe_callTy hc hgl hm hv ha hn hdb he hpl) fun _ _ _ q => t_cb hg q
/-- a module's built-in (gcd) -/
theorem se_cbG (hc : CallR X (.builtin id) r) (hg : GC X.K r g) (hm : X.mg x = some (.builtin id)) (ha : SA X W (e :: es) ma) (hgl : Gl X x := by rfl) (hdb : (x == ("__debug__" : Str)) = false := by decide)
    (he : starEach (e :: es) X.env = (false, eval e X.env) :: starEach es X.env := by rfl) (hpl : (backTo pos (starEach es X.env)).any (·.1) = false := by rfl) : SE X W (.Call (.Name x p) (e :: es) [] pos) (eCB g ma) :=
  pe_imp (pe_callBfun hc hgl hm ha hdb he hpl) fun _ _ _ q => t_cb hg q
end
section
variable {K : Frag}
theorem gc1 {r : List V → Hp → VK → Prop} {g : List D → Sto → Res D} (h0 : ∀ st, g [] st = .bad) (h2 : ∀ a b l st, g (a :: b :: l) st = .bad)
    (h : ∀ (w : Wd) (x : V) (d : D) (Q : VK) (E : XK), Ok K w → Rep K w x d → PR K (Rep K) w (g [d] w.st) Q E → r [x] w.H Q) : GC K r g := fun w xs ds Q E ok rs p => by
  cases rs with
  | nil => rw [h0] at p; exact p.elim
  | cons r t =>
    cases t with
    | nil => exact h w _ _ Q E ok r p
    | cons _ _ => rw [h2] at p; exact p.elim
theorem gc2 {r : List V → Hp → VK → Prop} {g : List D → Sto → Res D} (h0 : ∀ st, g [] st = .bad) (h1 : ∀ a st, g [a] st = .bad) (h3 : ∀ a b c l st, g (a :: b :: c :: l) st = .bad)
    (h : ∀ (w : Wd) (x y : V) (d e : D) (Q : VK) (E : XK), Ok K w → Rep K w x d → Rep K w y e → PR K (Rep K) w (g [d, e] w.st) Q E → r [x, y] w.H Q) : GC K r g := fun w xs ds Q E ok rs p => by
  cases rs with
  | nil => rw [h0] at p; exact p.elim
  | cons r t =>
    cases t with
    | nil => rw [h1] at p; exact p.elim
    | cons r2 t2 =>
      cases t2 with
      | nil => exact h w _ _ _ _ Q E ok r r2 p
      | cons _ _ => rw [h3] at p; exact p.elim
/-- len -/
def lenD : List D → Sto → Res D := fun ds st => match ds with
  | [.str z] => if z.length ≤ line then .ok (.int (z.length : Nat)) st else .bad
  | [d] => (match itemsOf d st with
    | some xs => .ok (.int (xs.length : Nat)) st
    | none => .bad)
  | _ => .bad
theorem gc_len : GC K (fun xs H Q => ∃ x n, xs = [x] ∧ LenV K x H n ∧ Q (.int n) H) lenD := gc1 (fun _ => rfl) (fun a _ _ _ => by cases a <;> rfl) fun w x d Q E ok r p => by
  by_cases hs : ∃ z, d = .str z
  · obtain ⟨z, rfl⟩ := hs
    cases r
    unfold lenD at p
    simp only at p
    by_cases hz : z.length ≤ line
    · rw [if_pos hz] at p
      exact ⟨_, z.length, rfl, ⟨by rw [line_eq]; exact hz, rfl⟩, PR.ret (R := Rep K) ok p (.int _)⟩
    · rw [if_neg hz] at p; exact p.elim
  · have e0 : lenD [d] w.st = (match itemsOf d w.st with
      | some xs => .ok (.int (xs.length : Nat)) w.st
      | none => .bad) := by
      cases d with
      | str z => exact absurd ⟨z, rfl⟩ hs
      | _ => rfl
    rw [e0] at p
    cases e1 : itemsOf d w.st with
    | none => rw [e1] at p; exact p.elim
    | some ds =>
      rw [e1] at p
      obtain ⟨a, vs, rfl, hq, rs⟩ := items_ok ok r e1
      refine ⟨_, ds.length, rfl, ?_, PR.ret (R := Rep K) ok p (.int _)⟩
      rcases hq with hq | hq
      · exact .inl ⟨vs, hq, rs.length.symm⟩
      · exact .inr ⟨vs, hq, rs.length.symm⟩
/-- list(x), tuple(x) -/
def listD (k : Bool) : List D → Sto → Res D := fun ds st => match ds with
  | [d] => (match itemsOf d st with
    | some xs => mkL k xs st
    | none => .bad)
  | _ => .bad
theorem gc_list {k : Bool} : GC K (fun xs H Q => ∃ p ys, xs = [.ref p] ∧ (SqL K H p ys ∨ SqT K H p ys) ∧ ∀ l, H l = none → Q (.ref l) (upd H l (.lst ys))) (listD k) := gc1 (fun _ => rfl) (fun _ _ _ _ => rfl) fun w x d Q E ok r p => by
  unfold listD at p
  cases e1 : itemsOf d w.st with
  | none => simp only [e1] at p; exact p.elim
  | some ds =>
    simp only [e1] at p
    obtain ⟨a, vs, rfl, hq, rs⟩ := items_ok ok r e1
    exact ⟨a, vs, rfl, hq, (mkL_ok ok p rs).2⟩
def tupleD : List D → Sto → Res D := fun ds st => match ds with
  | [d] => (match itemsOf d st with
    | some xs => .ok (.tup xs) st
    | none => .bad)
  | _ => .bad
theorem gc_tuple : GC K (fun xs H Q => ∃ p ys, xs = [.ref p] ∧ ((SqL K H p ys ∧ ∀ l, H l = none → Q (.ref l) (upd H l (.tup ys))) ∨ (SqT K H p ys ∧ Q (.ref p) H))) tupleD := gc1 (fun _ => rfl) (fun _ _ _ _ => rfl) fun w x d Q E ok r p => by
  unfold tupleD at p
  cases e1 : itemsOf d w.st with
  | none => simp only [e1] at p; exact p.elim
  | some ds =>
    simp only [e1] at p
    cases r with
    | tup h ho hs => cases e1; exact ⟨_, _, rfl, .inr ⟨.inl h, PR.ret (R := Rep K) ok p (.tup h ho hs)⟩⟩
    | ktup h hs => cases e1; exact ⟨_, _, rfl, .inr ⟨h _, PR.ret (R := Rep K) ok p (.ktup h hs)⟩⟩
    | lst h hl ho hs => cases e1; exact ⟨_, _, rfl, .inl ⟨.inl (.inl h), fun l hn => PR.new ok hn p (rep_new_tup ok hn hs)⟩⟩
    | kscr h ht hs => cases e1; exact ⟨_, _, rfl, .inl ⟨h _, fun l hn => PR.new ok hn p (rep_new_tup ok hn hs)⟩⟩
    | scr h hl ho hs => cases e1; exact ⟨_, _, rfl, .inl ⟨.inl (.inr ⟨_, h⟩), fun l hn => PR.new ok hn p (rep_new_tup ok hn hs)⟩⟩
    | @ref a n h =>
      have e2 : listOf (.ref n) w.st = some ds := e1
      obtain ⟨b, vs, e3, hq, rs⟩ := list_ok ok (.ref h) e2
      cases e3
      exact ⟨a, vs, rfl, .inl ⟨.inl (.inl hq), fun l hn => PR.new ok hn p (rep_new_tup ok hn rs)⟩⟩
    | _ => cases e1
/-- int(x) of ints and truths -/
def intD : List D → Sto → Res D := fun ds st => match ds with
  | [.int i] => .ok (.int i) st
  | [.bl b] => .ok (.int (if b then 1 else 0)) st
  | _ => .bad
@[simp] theorem intD_int (i : Int) (st : Sto) : intD [.int i] st = .ok (.int i) st := rfl
@[simp] theorem intD_bl (b : Bool) (st : Sto) : intD [.bl b] st = .ok (.int (if b then 1 else 0)) st := rfl
theorem gc_int : GC K (fun xs H Q => (∃ i, xs = [.int i] ∧ Q (.int i) H) ∨ ∃ k, xs = [.bl k] ∧ Q (.int (if k then 1 else 0)) H) intD := fun w xs ds Q E ok rs p => by
  cases rs with
  | nil => exact p.elim
  | cons r t =>
    cases t with
    | cons _ _ => cases r <;> exact p.elim
    | nil =>
      cases r with
      | int i => exact .inl ⟨i, rfl, PR.ret (R := Rep K) ok p (.int i)⟩
      | bl b => exact .inr ⟨b, rfl, PR.ret (R := Rep K) ok p (.int _)⟩
      | _ => exact p.elim
def absD : List D → Sto → Res D := fun ds st => match ds with
  | [.int i] => .ok (.int (if i < 0 then -i else i)) st
  | _ => .bad
@[simp] theorem absD_int (i : Int) (st : Sto) : absD [.int i] st = .ok (.int (if i < 0 then -i else i)) st := rfl
theorem gc_abs : GC K (fun xs H Q => ∃ i, xs = [.int i] ∧ Q (.int (if i < 0 then -i else i)) H) absD := fun w xs ds Q E ok rs p => by
  cases rs with
  | nil => exact p.elim
  | cons r t =>
    cases t with
    | cons _ _ => cases r <;> exact p.elim
    | nil =>
      cases r with
      | int i => exact ⟨i, rfl, PR.ret (R := Rep K) ok p (.int _)⟩
      | _ => exact p.elim
def gcdD : List D → Sto → Res D := fun ds st => match ds with
  | [.int i, .int j] => .ok (.int (Nat.gcd i.natAbs j.natAbs : Nat)) st
  | _ => .bad
@[simp] theorem gcdD_int (i j : Int) (st : Sto) : gcdD [.int i, .int j] st = .ok (.int (Nat.gcd i.natAbs j.natAbs : Nat)) st := rfl
def minD : List D → Sto → Res D := fun ds st => match ds with
  | [.int i, .int j] => .ok (.int (if j < i then j else i)) st
  | _ => .bad
def maxD : List D → Sto → Res D := fun ds st => match ds with
  | [.int i, .int j] => .ok (.int (if j > i then j else i)) st
  | _ => .bad
@[simp] theorem minD_int (i j : Int) (st : Sto) : minD [.int i, .int j] st = .ok (.int (if j < i then j else i)) st := rfl
@[simp] theorem maxD_int (i j : Int) (st : Sto) : maxD [.int i, .int j] st = .ok (.int (if j > i then j else i)) st := rfl
theorem gc_2ints {f : Int → Int → D} {g : Int → Int → V} (h : ∀ w i j, Rep K w (g i j) (f i j)) : GC K (fun vs H Q => ∃ a b : Int, vs = [.int a, .int b] ∧ Q (g a b) H) (fun ds st => match ds with
  | [.int i, .int j] => .ok (f i j) st
  | _ => .bad) := fun w xs ds Q E ok rs p => by
  by_cases hs : ∃ i j, ds = [.int i, .int j]
  · obtain ⟨i, j, rfl⟩ := hs
    cases rs with
    | cons r t =>
      cases t with
      | cons r2 t2 =>
        cases t2
        cases r
        cases r2
        exact ⟨i, j, rfl, PR.ret (R := Rep K) ok p (h _ _ _)⟩
  · exfalso
    revert p
    simp only
    split <;> first | (rename_i i j; exact fun _ => hs ⟨i, j, rfl⟩) | exact fun z => z
theorem gc_gcd : GC K rGcd gcdD := gc_2ints (f := fun i j => .int (Nat.gcd i.natAbs j.natAbs : Nat)) fun _ _ _ => .int _
theorem gc_min : GC K (fun vs H Q => ∃ a b : Int, vs = [.int a, .int b] ∧ Q (.int (if b < a then b else a)) H) minD := gc_2ints (f := fun i j => .int (if j < i then j else i)) fun _ _ _ => .int _
theorem gc_max : GC K (fun vs H Q => ∃ a b : Int, vs = [.int a, .int b] ∧ Q (.int (if b > a then b else a)) H) maxD := gc_2ints (f := fun i j => .int (if j > i then j else i)) fun _ _ _ => .int _
/-- all, any of a list of truths -/
def allB : List D → Option (List Bool)
  | [] => some []
  | .bl b :: r => (allB r).map (b :: ·)
  | _ :: _ => none
theorem allB_ok {w : Wd} : ∀ {vs : List V} {ds : List D} {bs : List Bool}, Reps K w vs ds → allB ds = some bs → vs = bs.map V.bl
  | _, _, _, .nil, e => by cases e; rfl
  | _, _, bs, .cons r t, e => by
    cases r with
    | bl b =>
      simp only [allB, Option.map_eq_some_iff] at e
      obtain ⟨cs, e1, rfl⟩ := e
      rw [allB_ok t e1]
      rfl
    | _ => cases e
def allD : List D → Sto → Res D := fun ds st => match ds with
  | [.lst xs] => (match allB xs with
    | some bs => .ok (.bl (bs.all fun b => b)) st
    | none => .bad)
  | _ => .bad
theorem gc_all : GC K (rAll K) allD := gc1 (fun _ => rfl) (fun a _ _ _ => by cases a <;> rfl) fun w x d Q E ok r p => by
  cases r with
  | @lst a vs ds h hl ho hs =>
    unfold allD at p
    cases e1 : allB ds with
    | none => simp only [e1] at p; exact p.elim
    | some bs =>
      simp only [e1] at p
      have e2 := allB_ok hs e1
      rw [e2] at h
      exact ⟨a, bs, rfl, .inl (.inl h), PR.ret (R := Rep K) ok p (.bl _)⟩
  | _ => exact p.elim
end
/-! ### methods of built-in types -/
def GMt (K : Frag) (r : V → List V → Hp → VK → Prop) (g : D → List D → Sto → Res D) : Prop := ∀ (w : Wd) (x : V) (xs : List V) (d : D) (ds : List D) (Q : VK) (E : XK), Ok K w → Rep K w x d → Reps K w xs ds → PR K (Rep K) w (g d ds w.st) Q E → r x xs w.H Q
/-- T: "list" or "str" -/
def isT (T : String) (d : D) (st : Sto) : Bool := match d with
  | .str _ => T == "str"
  | .int _ => T == "int"
  | d => T == "list" && (listOf d st).isSome
@[simp] def eBM (T : String) (g : D → List D → Sto → Res D) (o : Em) (a : Am) : Em := fun σ st => (o σ st).bind fun d st1 => if isT T d st1 = true then (a σ st1).bind fun ds st2 => g d ds st2 else .bad
theorem isT_ok {K : Frag} {T : String} {w : Wd} {v : V} {d : D} (ok : Ok K w) (r : Rep K w v d) (h : isT T d w.st = true) : tyV K T v w.H := by
  have main : ∀ {v : V} {d : D}, Rep K w v d → (T == "list" && (listOf d w.st).isSome) = true → tyV K T v w.H := fun {v d} r h => by
    obtain ⟨h1, h2⟩ := Bool.and_eq_true_iff.mp h
    cases e : listOf d w.st with
    | none => rw [e] at h2; cases h2
    | some ds =>
      obtain ⟨a, vs, rfl, hq, rs⟩ := list_ok ok r e
      exact .inl ⟨eq_of_beq h1, vs, .inl (.inl hq)⟩
  cases r with
  | str z => exact eq_of_beq h
  | int i => exact eq_of_beq h
  | non => exact main .non h
  | bl b => exact main (.bl b) h
  | ty n => exact main (.ty n) h
  | tup h1 h2 h3 => exact main (.tup h1 h2 h3) h
  | ktup h1 h2 => exact main (.ktup h1 h2) h
  | lst h1 h2 h3 h4 => exact main (.lst h1 h2 h3 h4) h
  | scr h1 h2 h3 h4 => exact main (.scr h1 h2 h3 h4) h
  | kscr h1 h2 h3 => exact main (.kscr h1 h2 h3) h
  | ins h1 h2 h3 h4 h5 => exact main (.ins h1 h2 h3 h4 h5) h
  | exo h1 h2 hl hl2 ho ho2 hs hc => exact main (.exo h1 h2 hl hl2 ho ho2 hs hc) h
  | ref h1 => exact main (.ref h1) h
section
variable {X : Cx} {W : WX} {o e : Expr} {es : List Expr} {T id : String} {name : Str} {apos cpos : Pos} {r : V → List V → Hp → VK → Prop} {g : D → List D → Sto → Res D} {mo : Em} {ma : Am}
theorem se_bm (pa : PlainAttrs T) (slot : Slot T name id) (hty : typeOf (.builtin id) = pure (.type "method_descriptor")) (hm : MtR X id r) (hg : GMt X.K r g) (ho : SE X W o mo) (ha : SA X W (e :: es) ma)
    (hbase : attributeBase o name X.env (eval o X.env) = eval o X.env := by rfl)
    (hfew : ((backTo cpos (starEach (e :: es) X.env)).all (fun x => !x.1) && (backToKw cpos (keywordEach [] X.env)).all (fun x => x.1.isSome)
      && decide ((e :: es).length + ([] : List Keyword).length + (if ([] : List Keyword).isEmpty then 0 else 1) < 30)) = true := by rfl)
    (hline : (apos.endLine == cpos.line) = true := by rfl) (hs : starEach (e :: es) X.env = (false, eval e X.env) :: starEach es X.env := by rfl) (hplain : (backTo cpos (starEach es X.env)).any (·.1) = false := by rfl) :
    SE X W (.Call (.Attribute o name apos) (e :: es) [] cpos) (eBM T g mo ma) :=
  pe_imp (pe_bm pa slot hty hm ho ha hbase hfew hline hs hplain) fun σV H Q q => by
    obtain ⟨w, σ, rfl, ok, sl, p⟩ := q
    refine ⟨w, σ, rfl, ok, sl, PR.bind ok p fun d st x mu H1 e1 s1 ok1 r1 p1 => ?_⟩
    by_cases hT : isT T d st = true
    · rw [if_pos hT] at p1
      refine ⟨isT_ok (w := ⟨mu, st, H1, w.op⟩) ok1 r1 hT, ⟨mu, st, H1, w.op⟩, σ, rfl, ok1, sl.step s1 ok, PR.bind ok1 p1 fun ds st2 xs mu2 H2 e2 s2 ok2 r2 p2 => ?_⟩
      exact hg ⟨mu2, st2, H2, w.op⟩ x xs d ds Q _ ok2 (r1.step s2 ok1) r2 p2
    · rw [if_neg hT] at p1; exact p1.elim
theorem se_bm0 (pa : PlainAttrs T) (slot : Slot T name id) (hty : typeOf (.builtin id) = pure (.type "method_descriptor")) (hm : MtR X id r) (hg : GMt X.K r g) (ho : SE X W o mo)
    (hbase : attributeBase o name X.env (eval o X.env) = eval o X.env := by rfl) (hline : (apos.endLine == cpos.line) = true := by rfl) :
    SE X W (.Call (.Attribute o name apos) [] [] cpos) (eBM T g mo aNil) :=
  pe_imp (pe_bm0 pa slot hty hm ho hbase hline) fun σV H Q q => by
    obtain ⟨w, σ, rfl, ok, sl, p⟩ := q
    refine ⟨w, σ, rfl, ok, sl, PR.bind ok p fun d st x mu H1 e1 s1 ok1 r1 p1 => ?_⟩
    by_cases hT : isT T d st = true
    · rw [if_pos hT] at p1
      exact ⟨isT_ok (w := ⟨mu, st, H1, w.op⟩) ok1 r1 hT, hg ⟨mu, st, H1, w.op⟩ x [] d [] Q _ ok1 r1 .nil p1⟩
    · rw [if_neg hT] at p1; exact p1.elim
end
section
variable {K : Frag}
/-- a list of the store changed -/
def wrL (n : Nat) (ds : List D) (d : D) (st : Sto) : Res D := .ok d (st.set n (some (.lst ds)))
theorem wrL_ok {w : Wd} {n : Nat} {a : Addr} {ds0 ds : List D} {vs : List V} {d : D} {v : V} {Q : VK} {E : XK} (ok : Ok K w) (h : w.mu[n]? = some a) (e : w.st[n]? = some (some (.lst ds0))) (rs : Reps K w vs ds)
    (rd : ∀ w', Step w w' → Rep K w' v d) (p : PR K (Rep K) w (wrL n ds d w.st) Q E) : Q v (upd w.H a (.lst vs)) := by
  have s := wr_step (o := .lst vs) (u := .lst ds) h e
  exact p v w.mu (upd w.H a (.lst vs)) s (wr_ok ok h e ⟨vs, upd_same, rs.step s ok⟩) (rd _ s)
/-- an object of the store that is a list -/
theorem ref_lst {w : Wd} {x : V} {d : D} {n : Nat} {ds : List D} (ok : Ok K w) (r : Rep K w x d) (hd : d = .ref n) (e : w.st[n]? = some (some (.lst ds))) : ∃ a vs, x = .ref a ∧ w.mu[n]? = some a ∧ w.H a = some (.lst vs) ∧ Reps K w vs ds := by
  subst hd
  cases r with
  | @ref a _ h =>
    obtain ⟨vs, h1, h2⟩ := ok.obj n a _ h e
    exact ⟨a, vs, rfl, h, h1, h2⟩
def mutD (f : List D → List D → Option (D × List D)) : D → List D → Sto → Res D := fun d as st => match d with
  | .ref n => (match st[n]? with
    | some (some (.lst ds)) => (match f ds as with
      | some (r, ds') => wrL n ds' r st
      | none => .bad)
    | _ => .bad)
  | _ => .bad
theorem gmt_mut {r : V → List V → Hp → VK → Prop} {f : List D → List D → Option (D × List D)}
    (h : ∀ (w : Wd) (a : Addr) (n : Nat) (vs xs : List V) (ds as ds' : List D) (d : D) (Q : VK), Ok K w → w.H a = some (.lst vs) → Reps K w vs ds → Reps K w xs as → f ds as = some (d, ds') →
      (∀ v vs', Reps K w vs' ds' → (∀ w', Step w w' → Rep K w' v d) → Q v (upd w.H a (.lst vs'))) → r (.ref a) xs w.H Q) : GMt K r (mutD f) := fun w x xs d as Q E ok rd ra p => by
  unfold mutD at p
  cases rd with
  | @ref a n hn =>
    cases e1 : w.st[n]? with
    | none => simp only [e1] at p; exact p.elim
    | some o =>
      cases o with
      | none => simp only [e1] at p; exact p.elim
      | some o =>
        cases o with
        | ins C fs => simp only [e1] at p; exact p.elim
        | lst ds =>
          simp only [e1] at p
          cases e2 : f ds as with
          | none => simp only [e2] at p; exact p.elim
          | some q =>
            obtain ⟨d, ds'⟩ := q
            simp only [e2] at p
            obtain ⟨vs, h1, h2⟩ := ok.obj n a _ hn e1
            exact h w a n vs xs ds as ds' d Q ok h1 h2 ra e2 fun v vs' rs rv => wrL_ok ok hn e1 rs rv p
  | _ => exact p.elim
def fAppend : List D → List D → Option (D × List D) := fun ds as => match as with
  | [d] => if ds.length < line then some (.non, ds ++ [d]) else none
  | _ => none
theorem gmt_append : GMt K rAppend (mutD fAppend) := gmt_mut fun w a n vs xs ds as ds' d Q ok h rs ra e k => by
  cases ra with
  | nil => cases e
  | @cons v x _ _ r t =>
    cases t with
    | cons _ _ => cases e
    | nil =>
      unfold fAppend at e
      simp only at e
      split at e
      · rename_i hl
        cases e
        exact ⟨a, vs, v, rfl, rfl, h, by rw [rs.length, line_eq]; exact hl, k .non _ (rs.append (.cons r .nil)) fun _ _ => .non⟩
      · cases e
def fReverse : List D → List D → Option (D × List D) := fun ds as => match as with
  | [] => some (.non, ds.reverse)
  | _ => none
theorem gmt_reverse : GMt K rReverse (mutD fReverse) := gmt_mut fun w a n vs xs ds as ds' d Q ok h rs ra e k => by
  cases ra with
  | nil =>
    cases e
    exact ⟨a, vs, rfl, rfl, h, k .non _ rs.reverse fun _ _ => .non⟩
  | cons _ _ => cases e
def fClear : List D → List D → Option (D × List D) := fun ds as => match as with
  | [] => some (.non, [])
  | _ => none
theorem gmt_clear : GMt K rClear (mutD fClear) := gmt_mut fun w a n vs xs ds as ds' d Q ok h rs ra e k => by
  cases ra with
  | nil =>
    cases e
    exact ⟨a, vs, rfl, rfl, h, k .non _ .nil fun _ _ => .non⟩
  | cons _ _ => cases e
end
/-! ### o[i] = v -/
def setD : D → D → D → Sto → Option Sto := fun o i v st => match o, i with
  | .ref n, .int k => (match st[n]? with
    | some (some (.lst ds)) => (match ixN ds.length k with
      | some j => some (st.set n (some (.lst (ds.set j v))))
      | none => none)
    | _ => none)
  | _, _ => none
@[simp] def sSetIx (m o i : Em) : Sm := fun σ st => (m σ st).toRS σ fun v st1 => (o σ st1).toRS σ fun x st2 => (i σ st2).toRS σ fun y st3 => match setD x y v st3 with
  | some st4 => .nx σ st4
  | none => .bad
section
variable {X : Cx} {W : WX} {e o i : Expr} {m mo mi : Em} {pos tpos : Pos}
theorem ss_setix (he : SE X W e m) (ho : SE X W o mo) (hi : SE X W i mi) (ha : ∀ v, assign (.Subscript o i tpos) X.env v = (do
      let ov ← holding [v] (eval o X.env)
      let iv ← holding [v, ov] (eval i X.env)
      standAt tpos
      holding [v, ov, iv] (setItem ov iv v)
      release [v, ov, iv] []) := by intro _; rfl) (hs : swapsWithSole [.Subscript o i tpos] e pos.line X.env = pure false := by rfl) (hw : swappedStores [.Subscript o i tpos] e X.env = pure none := by rfl)
    (h1 : (assignEach [.Subscript o i tpos] X.env).map (·.2) = [assign (.Subscript o i tpos) X.env] := by rfl) : SS X W (.Assign [.Subscript o i tpos] e pos) (sSetIx m mo mi) :=
  ps_imp (ps_asg he (pg_sub ho hi set_list ha) hs hw h1) fun D σV H q => by
    obtain ⟨w, σ, rfl, ok, sl, p⟩ := q
    refine ⟨w, σ, rfl, ok, sl, PSr.toR ok sl p fun d st v mu H1 e1 s1 ok1 r1 p1 => ?_⟩
    have sl1 := sl.step s1 ok
    refine ⟨⟨mu, st, H1, w.op⟩, σ, rfl, ok1, sl1, PSr.toR ok1 sl1 p1 fun d2 st2 ov mu2 H2 e2 s2 ok2 r2 p2 => ?_⟩
    have sl2 := sl1.step s2 ok1
    refine ⟨⟨mu2, st2, H2, w.op⟩, σ, rfl, ok2, sl2, PSr.toR ok2 sl2 p2 fun d3 st3 iv mu3 H3 e3 s3 ok3 r3 p3 => ?_⟩
    have sl3 := sl2.step s3 ok2
    have rv := (r1.step s2 ok1).step s3 ok2
    have ro := r2.step s3 ok2
    unfold setD at p3
    cases ro with
    | @ref a n hn =>
      cases r3 with
      | int k =>
        simp only at p3
        cases q1 : st3[n]? with
        | none => simp only [q1] at p3; exact p3.elim
        | some u =>
          cases u with
          | none => simp only [q1] at p3; exact p3.elim
          | some u =>
            cases u with
            | ins C fs => simp only [q1] at p3; exact p3.elim
            | lst ds =>
              simp only [q1] at p3
              cases q2 : ixN ds.length k with
              | none => simp only [q2] at p3; exact p3.elim
              | some j =>
                simp only [q2] at p3
                obtain ⟨vs, h1, h2⟩ := ok3.obj n a _ hn q1
                refine ⟨a, vs, k, j, rfl, rfl, h1, by rw [h2.length]; exact q2, ?_⟩
                have s := wr_step (w := ⟨mu3, st3, H3, w.op⟩) (o := .lst (vs.set j v)) (u := .lst (ds.set j d)) hn q1
                exact p3 σV mu3 _ s (wr_ok (w := ⟨mu3, st3, H3, w.op⟩) ok3 hn q1 ⟨_, upd_same, (h2.set rv j).step s ok3⟩) (sl3.step s ok3)
      | _ => exact p3.elim
    | _ => exact p3.elim
end
/-! ### lists put together, repeated -/
def catL (k : Bool) : D → D → Sto → Res D := fun x y st => match listOf x st, listOf y st with
  | some a, some b => mkL k (a ++ b) st
  | _, _ => .bad
def repL (k : Bool) : D → D → Sto → Res D := fun x y st => match y with
  | .int n => (match listOf x st with
    | some a => if (decide (-(2 ^ 63) ≤ n) && (decide (n < 2 ^ 63) && decide (a.length * n.toNat ≤ line))) = true then mkL k (List.replicate n.toNat a).flatten st else .bad
    | none => .bad)
  | _ => .bad
theorem Reps.rep {K : Frag} {w : Wd} {vs : List V} {ds : List D} (r : Reps K w vs ds) : ∀ n : Nat, Reps K w (List.replicate n vs).flatten (List.replicate n ds).flatten
  | 0 => .nil
  | n + 1 => by
    rw [List.replicate_succ, List.replicate_succ, List.flatten_cons, List.flatten_cons]
    exact r.append (Reps.rep r n)
section
variable {X : Cx} {W : WX} {a b : Expr} {ma mb : Em} {pos : Pos}
theorem se_cat {k : Bool} (ha : SE X W a ma) (hb : SE X W b mb) : SE X W (.BinOp a .Add b pos) (eBin (catL k) ma mb) := se_bin op_cat (by
  intro w x y dx dy Q E ok rx ry p
  unfold catL at p
  cases e1 : listOf dx w.st with
  | none => rw [e1] at p; exact p.elim
  | some u =>
    cases e2 : listOf dy w.st with
    | none => rw [e1, e2] at p; exact p.elim
    | some v =>
      rw [e1, e2] at p
      obtain ⟨a1, vs, rfl, h1, r1⟩ := list_ok ok rx e1
      obtain ⟨a2, us, rfl, h2, r2⟩ := list_ok ok ry e2
      obtain ⟨hl, q⟩ := mkL_ok ok p (r1.append r2)
      rw [List.length_append] at hl
      exact ⟨a1, a2, vs, us, rfl, rfl, h1, h2, hl, q⟩) ha hb
theorem se_rep {k : Bool} (ha : SE X W a ma) (hb : SE X W b mb) : SE X W (.BinOp a .Mult b pos) (eBin (repL k) ma mb) := se_bin op_rep (by
  intro w x y dx dy Q E ok rx ry p
  cases ry with
  | int n =>
    unfold repL at p
    simp only at p
    cases e1 : listOf dx w.st with
    | none => rw [e1] at p; exact p.elim
    | some u =>
      rw [e1] at p
      simp only at p
      split at p
      · rename_i hh
        simp only [Bool.and_eq_true, decide_eq_true_eq] at hh
        obtain ⟨a1, vs, rfl, h1, r1⟩ := list_ok ok rx e1
        exact ⟨a1, n, vs, rfl, rfl, h1, hh.1, hh.2.1, by rw [r1.length, line_eq]; exact hh.2.2, (mkL_ok ok p (r1.rep n.toNat)).2⟩
      · exact p.elim
  | _ => exact p.elim) ha hb
end
end Sim

set_option Elab.async false
set_option linter.all false
set_option maxRecDepth 100000
set_option maxHeartbeats 4000000
/-! defs by name, isinstance, in, join -/
namespace Sim
open PySem PySem.Spec PyProof.Rows L2

/-! ### a def, by its name -/
def chk (n : Nat) (m : List D → Sto → Res D) : List D → Sto → Res D := fun ds st => if ds.length = n then m ds st else .bad
theorem chk_len {n : Nat} {m : List D → Sto → Res D} (ds : List D) (st : Sto) (h : chk n m ds st ≠ .bad) : ds.length = n := by
  unfold chk at h
  by_cases e : ds.length = n
  · exact e
  · rw [if_neg e] at h; exact absurd rfl h
structure Fn (P : Program) (w : World) (K : Frag) (mg : Str → Option Value) (base : Heap) (x : Str) (k n : Nat) (m : List D → Sto → Res D) : Prop where
  ex : ∃ (fd : FuncData) (ps : List Str), FnOk P w K mg base (CXp P w) k (He.ga K x) fd ps (spM K n m) ∧ Binds K fd ps []
  glo : mg x = some (.ref (He.ga K x))
  kp : PySem.W.keepIn K (.ref (He.ga K x)) = true
  len : ∀ ds st, m ds st ≠ .bad → ds.length = n
section
variable {X : Cx} {W : WX} {j k n : Nat} {x : Str} {p pos : Pos} {e : Expr} {es : List Expr} {ma : Am} {m : List D → Sto → Res D}
theorem se_fn (F : Fn X.prog X.w X.K X.mg X.base x k n m) (hr : Room j X.A) (hk : k ≤ j) (tk : Takes X W) (ha : SA X W (e :: es) ma)
    (hg : Gl X x := by rfl) (hdb : (x == ("__debug__" : Str)) = false := by decide) (he : starEach (e :: es) X.env = (false, eval e X.env) :: starEach es X.env := by rfl) (hpl : (backTo pos (starEach es X.env)).any (·.1) = false := by rfl) :
    SE X W (.Call (.Name x p) (e :: es) [] pos) (eCall m ma []) := by
  obtain ⟨fd, ps, G, hb⟩ := F.ex
  exact se_call G (hr.mono hk) F.glo F.kp hb .nil tk F.len (fun _ _ => .nil) ha hg hdb he hpl
end
section
variable {P : Program} {wd : World} {K : Frag} {mg : Str → Option Value} {base : Heap}
theorem runDef_chk {K : Frag} {N n : Nat} {m : Sm} : spM K n (chk n (runDef N m)) = spM K n (runDef N m) := by
  funext vs H Q E
  refine propext ⟨fun ⟨w, ds, a, b, c, l, p⟩ => ⟨w, ds, a, b, c, l, by unfold chk at p; rw [if_pos l] at p; exact p⟩, fun ⟨w, ds, a, b, c, l, p⟩ => ⟨w, ds, a, b, c, l, by unfold chk; rw [if_pos l]; exact p⟩⟩
/-- a def of the text, known by its name -/
theorem fn_name {x qual : Str} {params : Arguments} {body : List Stmt} {scope : Scope} {fd : FuncData} {N ps : List Str} {k : Nat} {m : Sm}
    (F : FunD K x qual params body scope [] [] (He.ga K x) fd) (S : FnScope N ps scope) (hg : mg x = some (.ref (He.ga K x))) (b : Binds K fd ps [])
    (hb : ∀ (cdv : Value) (A : Around) (outer : List Env) (s : Shared) (H : Hp) (E : XK), Room k (A.deeper (envOfC qual scope s.heap.objs.size (He.ga K x) cdv)) →
      SSs (cxOf (CXp P wd) P wd K mg base N qual scope (He.ga K x) cdv A outer s H E) (wOf E) body m) : Fn P wd K mg base x (k + 1) ps.length (chk ps.length (runDef N.length m)) :=
  ⟨⟨fd, ps, by rw [runDef_chk]; exact fn_sim F S hb, b⟩, hg, F.kp, chk_len⟩
theorem cx_takes {N : List Str} {qual : Str} {scope : Scope} {f : Addr} {cdv : Value} {A : Around} {outer : List Env} {s : Shared} {H : Hp} {E : XK} :
    Takes (cxOf (CXp P wd) P wd K mg base N qual scope f cdv A outer s H E) (wOf E) := takes_of rfl rfl rfl rfl
theorem cx_own {N : List Str} {qual : Str} {scope : Scope} {f : Addr} {cdv : Value} {A : Around} {outer : List Env} {s : Shared} {H : Hp} {E : XK} :
    PassesOwn (model P wd) (cxOf (CXp P wd) P wd K mg base N qual scope f cdv A outer s H E).A (cxOf (CXp P wd) P wd K mg base N qual scope f cdv A outer s H E).env (cxOf (CXp P wd) P wd K mg base N qual scope f cdv A outer s H E).xe :=
  passes_of (X := cxOf (CXp P wd) P wd K mg base N qual scope f cdv A outer s H E) rfl
/-- no mirror: nothing is promised -/
def mBad : Sm := fun _ _ => .bad
theorem sss_bad {X : Cx} {W : WX} {body : List Stmt} (h : ∃ t, PSs X body t) : SSs X W body mBad := by
  obtain ⟨t, h⟩ := h
  exact pss_imp h fun D σV H ⟨w, σ, e, ok, sl, p⟩ => p.elim
theorem sss_bad' {X : Cx} {W : WX} {body : List Stmt} {m : Sm} (h : SSs X W body m) : SSs X W body mBad := sss_bad ⟨_, h⟩
end

/-! ### isinstance -/
inductive Tg where
  | b (n : String) | c (C : Str)
def Tg.val (K : Frag) : Tg → Value
  | .b n => .type n
  | .c C => .ref (He.ga K C)
def tgOf (d : D) (st : Sto) : Option Tg := match d with
  | .non => some (.b "NoneType")
  | .bl _ => some (.b "bool")
  | .int _ => some (.b "int")
  | .str _ => some (.b "str")
  | .tup _ => some (.b "tuple")
  | .lst _ => some (.b "list")
  | .scr _ => some (.b "list")
  | .ins C _ => some (.c C)
  | .ref n => match st[n]? with
    | some (some (.lst _)) => some (.b "list")
    | some (some (.ins C _)) => some (.c C)
    | _ => none
  | .ty _ => none
section
variable {X : Cx} {pins : List (Addr × Obj)} {σ : L2.St} {H : Hp} {s : Shared}
theorem kit_rep {w : Wd} {x : V} {d : D} {u : Value} {t : Tg} (I : Inv X pins σ H s) (rx : RelV x u) (hH : w.H = H) (ok : Ok X.K w) (r : Rep X.K w x d) (ht : tgOf d w.st = some t) :
    ∃ P : Heap → Prop, PySem.W.KitX X.K u (t.val X.K) P ∧ P s.heap ∧ u ≠ .builtin "__main__.__loader__#opaque" := by
  subst hH
  cases r with
  | non => cases ht; exact kit_of I rx (.base .non)
  | bl b => cases ht; exact kit_of I rx (.base (.bl b))
  | int i => cases ht; exact kit_of I rx (.base (.int i))
  | str z => cases ht; exact kit_of I rx (.base (.str z))
  | ty n => cases ht
  | tup h ho hs =>
    cases ht
    rcases h with h | ⟨o, h⟩
    · exact kit_of I rx (.base (.tup h))
    · exact kit_of I rx (.fTuple h)
  | ktup h hs =>
    cases ht
    rcases h w.H with h | ⟨o, its, n, h1, h2, _⟩
    · rcases h with h | ⟨o, h⟩
      · exact kit_of I rx (.base (.tup h))
      · exact kit_of I rx (.fTuple h)
    · exact kit_of I rx (.kTuple h1 h2)
  | lst h hl ho hs => cases ht; exact kit_of I rx (.base (.lst h))
  | scr h hl ho hs => cases ht; exact kit_of I rx (.base (.frz h))
  | kscr h h2 hs => cases ht; obtain ⟨o, h3, h4⟩ := h2; exact kit_of I rx (.kList h3 h4)
  | ins h hl ho hs hc => cases ht; exact kit_of I rx (.base (.ins h hc.cls hc.cn hc.gt hc.tk hc.ob))
  | @exo a dx C fv fs h h2 hl hl2 ho ho2 hs hc =>
    cases ht
    cases (show u = Value.ref a from rx)
    have hx : ObjOk X.prog X.w w.H s.heap dx (.xd fv) := I.hok dx _ h2
    obtain ⟨mA, hns, hr⟩ := hx
    obtain ⟨od, hod, hl⟩ := lookIn_ns hns
    have z : ObjOk X.prog X.w w.H s.heap a (xo a (He.ga X.K C) dx) := I.hok a _ h
    obtain ⟨⟨o, vs, e1, e2, e3, e4⟩, _⟩ := z
    have J : PySem.W.InstAt s.heap a o (He.ga X.K C) (some od) := ⟨e1, e2, by unfold PySem.W.notCls; rw [e4] <;> rfl, by rw [e3]; exact hod⟩
    exact ⟨_, PySem.W.kitx_exc hc.cl hc.ga hc.gg hc.exC hc.cn hc.gt hc.tk hc.ob, J, fun z => nomatch z⟩
  | @ref a n h =>
    unfold tgOf at ht
    cases e : w.st[n]? with
    | none => simp only [e] at ht; cases ht
    | some o =>
      cases o with
      | none => simp only [e] at ht; cases ht
      | some o =>
        have ro := ok.obj n a o h e
        cases o with
        | lst ds =>
          simp only [e] at ht
          cases ht
          obtain ⟨vs, h1, h2⟩ := ro
          exact kit_of I rx (.base (.lst h1))
        | ins C fs =>
          simp only [e] at ht
          cases ht
          obtain ⟨dx, fv, h1, h2, hc⟩ := ro
          exact kit_of I rx (.base (.ins h1 hc.cls hc.cn hc.gt hc.tk hc.ob))
end
def rIsW (K : Frag) : List V → Hp → VK → Prop := fun xs H Q => ∃ (w : Wd) (x c : V) (d : D) (t : Tg) (u : Value) (b : Bool), xs = [x, c] ∧ w.H = H ∧ Ok K w ∧ Rep K w x d ∧ tgOf d w.st = some t ∧ ClsV c u ∧ PySem.W.kitOne K (t.val K) u = some b ∧ Q (.bl b) H
def rIsWT (K : Frag) : List V → Hp → VK → Prop := fun xs H Q => ∃ (w : Wd) (x : V) (tp : Addr) (cs : List V) (d : D) (t : Tg) (us : List Value) (b : Bool), xs = [x, .ref tp] ∧ w.H = H ∧ Ok K w ∧ Rep K w x d ∧ tgOf d w.st = some t ∧ H tp = some (.tup cs) ∧ Paired ClsV cs us ∧ PySem.W.kitAny K (t.val K) us = some b ∧ Q (.bl b) H
section
variable {X : Cx} {W : WX}
theorem call_isW : CallR X (.builtin "isinstance") (rIsW X.K) := by
  intro pins s σ H xs us Q I r h
  obtain ⟨w, x, c, d, t, u, b, rfl, hH, ok, rx, ht, k, e, q⟩ := h
  obtain ⟨u1, u2, rfl, r1, r2⟩ := vals2 r
  have e2 := k.eq r2
  subst e2
  obtain ⟨P, Z, p, hx⟩ := kit_rep I r1 hH ok rx ht
  exact PySem.W.kia_one Z I.kIn p e hx fun tk => ⟨.bl b, H, I.tok tk, rfl, q⟩
theorem call_isWT : CallR X (.builtin "isinstance") (rIsWT X.K) := by
  intro pins s σ H xs us Q I r h
  obtain ⟨w, x, tp, cs, d, t, ws, b, rfl, hH, ok, rx, ht, hT, k, e, q⟩ := h
  obtain ⟨u1, u2, rfl, r1, r2⟩ := vals2 r
  cases (show u2 = Value.ref tp from r2)
  obtain ⟨P, Z, p, hx⟩ := kit_rep I r1 hH ok rx ht
  obtain ⟨_, its, rv, o, h1, h2, n, h3⟩ := (show ObjOk X.prog X.w H s.heap tp (.tup cs) from I.hok tp _ hT)
  have e3 := ClsV.all k rv
  subst e3
  obtain ⟨oc, od, dt, sl⟩ := o
  simp only at h2 h3
  subst h2 h3
  exact PySem.W.kia_tup Z I.kIn p h1 e hx fun tk => ⟨.bl b, H, I.tok tk, rfl, q⟩
def isiD (f : Tg → Option Bool) : D → Sto → Res D := fun d st => match tgOf d st with
  | some t => (match f t with
    | some b => .ok (.bl b) st
    | none => .bad)
  | none => .bad
/-- a class, as it is written -/
structure ClsE (X : Cx) (e : Expr) (c : V) (u : Value) : Prop where
  ev : PE X e (tC c)
  cv : ClsV c u
theorem cls_ty {x : Str} {T : String} {pos : Pos} (hm : X.mg x = none) (hg : Gl X x := by rfl) (hv : bootBuiltins x = some (.type T) := by decide +kernel) (hn : x ≠ "__name__" := by decide) (hd : (x == ("__debug__" : Str)) = false := by decide) : ClsE X (.Name x pos) (.ty T) (.type T) :=
  ⟨pe_bltn hg hm hv rfl hn hd, .ty T⟩
theorem cls_own {x : Str} {pos : Pos} (hm : X.mg x = some (.ref (He.ga X.K x))) (hg : Gl X x := by rfl) (hd : (x == ("__debug__" : Str)) = false := by decide) : ClsE X (.Name x pos) (.ref (He.ga X.K x)) (.ref (He.ga X.K x)) :=
  ⟨pe_glob hg hm rfl hd, .own _⟩
theorem se_isi {e ce : Expr} {m : Em} {c : V} {u : Value} {f : Tg → Option Bool} {p pos : Pos} (hm : X.mg "isinstance" = none) (he : SE X W e m) (hc : ClsE X ce c u) (hf : ∀ t b, f t = some b → PySem.W.kitOne X.K (t.val X.K) u = some b)
    (hg : Gl X "isinstance" := by rfl) (hs : starEach [e, ce] X.env = (false, eval e X.env) :: starEach [ce] X.env := by rfl) (hs1 : starEach [ce] X.env = (false, eval ce X.env) :: starEach [] X.env := by rfl) (hpl : (backTo pos (starEach [ce] X.env)).any (·.1) = false := by rfl) :
    SE X W (.Call (.Name "isinstance" p) [e, ce] [] pos) (eUn (isiD f) m) :=
  pe_imp (pe_callB call_isW hg hm (by decide +kernel) (pa_cons he (pa_cons hc.ev pa_nil hs1) hs) (by decide) (by decide) hs hpl) fun σV H Q q => by
    obtain ⟨w, σ, rfl, ok, sl, p⟩ := q
    refine ⟨w, σ, rfl, ok, sl, PR.bind ok p fun d st x mu H1 e1 s1 ok1 r1 p1 => ?_⟩
    unfold isiD at p1
    cases e2 : tgOf d st with
    | none => rw [e2] at p1; exact p1.elim
    | some t =>
      cases e3 : f t with
      | none => simp only [e2, e3] at p1; exact p1.elim
      | some b =>
        simp only [e2, e3] at p1
        exact ⟨⟨mu, st, H1, w.op⟩, x, c, d, t, u, b, rfl, rfl, ok1, r1, e2, hc.cv, hf t b e3, PR.ret (R := Rep X.K) ok1 p1 (.bl b)⟩
theorem se_isi2 {e ce de : Expr} {m : Em} {c c2 : V} {u u2 : Value} {f : Tg → Option Bool} {p pos tp : Pos} {kt} (hm : X.mg "isinstance" = none) (he : SE X W e m) (hc : ClsE X ce c u) (hc2 : ClsE X de c2 u2) (hf : ∀ t b, f t = some b → PySem.W.kitAny X.K (t.val X.K) [u, u2] = some b)
    (hg : Gl X "isinstance" := by rfl) (hs : starEach [e, .Tuple [ce, de] kt tp] X.env = (false, eval e X.env) :: starEach [.Tuple [ce, de] kt tp] X.env := by rfl)
    (hs1 : starEach [.Tuple [ce, de] kt tp] X.env = (false, eval (.Tuple [ce, de] kt tp) X.env) :: starEach [] X.env := by rfl) (hpl : (backTo pos (starEach [.Tuple [ce, de] kt tp] X.env)).any (·.1) = false := by rfl)
    (ht1 : starEach [ce, de] X.env = (false, eval ce X.env) :: starEach [de] X.env := by rfl) (ht2 : starEach [de] X.env = (false, eval de X.env) :: starEach [] X.env := by rfl) :
    SE X W (.Call (.Name "isinstance" p) [e, .Tuple [ce, de] kt tp] [] pos) (eUn (isiD f) m) :=
  pe_imp (pe_callB call_isWT hg hm (by decide +kernel) (pa_cons he (pa_cons (pe_tup (pa_cons hc.ev (pa_cons hc2.ev pa_nil ht2) ht1)) pa_nil hs1) hs) (by decide) (by decide) hs hpl) fun σV H Q q => by
    obtain ⟨w, σ, rfl, ok, sl, p⟩ := q
    refine ⟨w, σ, rfl, ok, sl, PR.bind ok p fun d st x mu H1 e1 s1 ok1 r1 p1 => ?_⟩
    unfold isiD at p1
    cases e2 : tgOf d st with
    | none => rw [e2] at p1; exact p1.elim
    | some t =>
      cases e3 : f t with
      | none => simp only [e2, e3] at p1; exact p1.elim
      | some b =>
        simp only [e2, e3] at p1
        refine ⟨by rw [sizeLine_eq]; exact (by decide : 2 ≤ 16777216), fun q hq => ?_⟩
        have ok2 := put_ok (o := .tup [c, c2]) ok1 hq
        have s2 := put_step (w := ⟨mu, st, H1, w.op⟩) (o := .tup [c, c2]) hq
        exact ⟨Wd.put ⟨mu, st, H1, w.op⟩ q (.tup [c, c2]), x, q, [c, c2], d, t, [u, u2], b, rfl, rfl, ok2, r1.step s2 ok1, e2, upd_same, .cons hc.cv (.cons hc2.cv .nil), hf t b e3, PR.new (K := X.K) (w := ⟨mu, st, H1, w.op⟩) (v := .bl b) ok1 hq p1 (.bl b)⟩
def tyNames : List String := ["NoneType", "bool", "int", "str", "tuple", "list"]
/-- a built-in type T's instances -/
def isB (T : String) (cs : List Str) : Tg → Option Bool
  | .b n => if n ∈ tyNames then some (n == T || (n == "bool" && T == "int")) else none
  | .c C => if C ∈ cs then some false else none
def isB2 (T U : String) (cs : List Str) : Tg → Option Bool
  | .b n => if n ∈ tyNames then some ((n == T || (n == "bool" && T == "int")) || (n == U || (n == "bool" && U == "int"))) else none
  | .c C => if C ∈ cs then some false else none
theorem kit_b {K : Frag} {n T : String} (hn : n ∈ tyNames) (hT : T ∈ ["bool", "int", "str", "tuple", "list"]) : PySem.W.kitOne K (.type n) (.type T) = some (n == T || (n == "bool" && T == "int")) := by
  have key : (tyNames.all fun n => ["bool", "int", "str", "tuple", "list"].all fun T => decide (PySem.W.kitOne K (.type n) (.type T) = some (n == T || (n == "bool" && T == "int")))) = true := by kernel_rfl
  exact of_decide_eq_true (List.all_eq_true.mp (List.all_eq_true.mp key n hn) T hT)
theorem isB_ok {K : Frag} {T : String} {cs : List Str} (hT : T ∈ ["bool", "int", "str", "tuple", "list"]) (hc : ∀ C ∈ cs, PySem.W.kitOne K (.ref (He.ga K C)) (.type T) = some false) (t : Tg) (b : Bool) (h : isB T cs t = some b) : PySem.W.kitOne K (t.val K) (.type T) = some b := by
  cases t with
  | b n =>
    have h : (if n ∈ tyNames then some (n == T || (n == "bool" && T == "int")) else none) = some b := h
    by_cases hn : n ∈ tyNames
    · rw [if_pos hn] at h
      rw [← h]
      exact kit_b hn hT
    · rw [if_neg hn] at h; cases h
  | c C =>
    have h : (if C ∈ cs then some false else none) = some b := h
    by_cases hC : C ∈ cs
    · rw [if_pos hC] at h
      rw [← h]
      exact hc C hC
    · rw [if_neg hC] at h; cases h
theorem isB2_ok {K : Frag} {T U : String} {cs : List Str} (hT : T ∈ ["bool", "int", "str", "tuple", "list"]) (hU : U ∈ ["bool", "int", "str", "tuple", "list"]) (hc : ∀ C ∈ cs, PySem.W.kitOne K (.ref (He.ga K C)) (.type T) = some false) (hc2 : ∀ C ∈ cs, PySem.W.kitOne K (.ref (He.ga K C)) (.type U) = some false) (t : Tg) (b : Bool) (h : isB2 T U cs t = some b) :
    PySem.W.kitAny K (t.val K) [.type T, .type U] = some b := by
  have key : ∀ {v : Value} {p q : Bool}, PySem.W.kitOne K v (.type T) = some p → PySem.W.kitOne K v (.type U) = some q → PySem.W.kitAny K v [.type T, .type U] = some (p || q) := fun {v p q} h1 h2 => by
    unfold PySem.W.kitAny
    rw [h1]
    cases p with
    | true => rfl
    | false =>
      unfold PySem.W.kitAny
      simp only [h2]
      cases q <;> rfl
  cases t with
  | b n =>
    have h : (if n ∈ tyNames then some ((n == T || (n == "bool" && T == "int")) || (n == U || (n == "bool" && U == "int"))) else none) = some b := h
    by_cases hn : n ∈ tyNames
    · rw [if_pos hn] at h
      rw [← h]
      exact key (kit_b hn hT) (kit_b hn hU)
    · rw [if_neg hn] at h; cases h
  | c C =>
    have h : (if C ∈ cs then some false else none) = some b := h
    by_cases hC : C ∈ cs
    · rw [if_pos hC] at h
      rw [← h]
      exact key (hc C hC) (hc2 C hC)
    · rw [if_neg hC] at h; cases h
end

/-! ### in -/
def allS : List D → Option (List Str)
  | [] => some []
  | .str s :: r => (allS r).map (s :: ·)
  | _ => none
theorem allS_ok {K : Frag} {w : Wd} : ∀ {vs : List V} {ds : List D} {bs : List Str}, Reps K w vs ds → allS ds = some bs → vs = bs.map V.str
  | _, _, _, .nil, e => by cases e; rfl
  | _, _, _, .cons r t, e => by
    cases r with
    | str s =>
      unfold allS at e
      cases q : allS _ with
      | none => rw [q] at e; cases e
      | some l =>
        rw [q] at e
        cases e
        rw [allS_ok t q]
        rfl
    | _ => cases e
/-- x in (a tuple or list of texts) -/
def inSD (neg : Bool) : D → D → Sto → Res D := fun x y st => match x, itemsOf y st with
  | .str s, some ds => (match allS ds with
    | some ss => .ok (.bl (xor neg (decide (s ∈ ss)))) st
    | none => .bad)
  | _, _ => .bad
theorem inV_str (s : Str) (ss : List Str) : inV (.str s) (ss.map V.str) = decide (s ∈ ss) := by
  induction ss with
  | nil => rfl
  | cons a l ih =>
    have e : inV (.str s) ((a :: l).map V.str) = ((a == s) || inV (.str s) (l.map V.str)) := rfl
    rw [e, ih]
    by_cases h : a = s
    · subst h; simp
    · have h2 : ¬ s = a := fun z => h z.symm
      simp [h, h2]
theorem gop_inS {K : Frag} {neg : Bool} : GOp K (rIn K neg) (inSD neg) := by
  intro w x y dx dy Q E ok rx ry p
  unfold inSD at p
  cases rx with
  | str s =>
    cases e : itemsOf dy w.st with
    | none => simp only [e] at p; exact p.elim
    | some ds =>
      simp only [e] at p
      obtain ⟨a, vs, rfl, hq, rs⟩ := items_ok ok ry e
      cases e2 : allS ds with
      | none => simp only [e2] at p; exact p.elim
      | some ss =>
        simp only [e2] at p
        have e3 := allS_ok rs e2
        subst e3
        refine ⟨a, _, rfl, hq, rfl, ?_, ?_⟩
        · rw [List.all_map]; exact List.all_eq_true.mpr fun _ _ => rfl
        · have z := PR.ret (R := Rep K) ok p (.bl _)
          rw [inV_str]
          cases neg with
          | true => simpa using z
          | false => simpa using z
  | _ => exact p.elim
section
variable {X : Cx} {W : WX} {a b : Expr} {ma mb : Em} {pos : Pos}
theorem se_inS (ha : SE X W a ma) (hb : SE X W b mb) (hm : behindInMarks .In b = false := by rfl) : SE X W (.Compare a [.In] [b] pos) (eBin (inSD false) ma mb) := se_cmp op_in_seq gop_inS ha hb hm
theorem st_inS (ha : SE X W a ma) (hb : SE X W b mb) (hm : behindInMarks .In b = false := by rfl) : ST X W (.Compare a [.In] [b] pos) (tOf (eBin (inSD false) ma mb)) := st_cmp op_in_seq gop_inS ha hb hm
/-! ### join -/
def joinD (a : Str) (x : D) (st : Sto) : Res D := match itemsOf x st with
  | some ds => (match allS ds with
    | some ys => if (ys.map (·.length)).sum + ys.length * a.length ≤ 16777216 then .ok (.str (Txt.join a ys)) st else .bad
    | none => .bad)
  | _ => .bad
def eJoin (ma mb : Em) : Em := fun σ st => (ma σ st).bind fun x st1 => match x with
  | .str a => (mb σ st1).bind fun y st2 => joinD a y st2
  | _ => .bad
theorem joinD_ok {w : Wd} {z : Str} {d : D} {y : V} {Q : VK} {E : XK} (ok : Ok X.K w) (r : Rep X.K w y d) (p : PR X.K (Rep X.K) w (joinD z d w.st) Q E) :
    ∃ a p, ∃ ys : List Str, V.str z = .str a ∧ [y] = [V.ref p] ∧ (SqL X.K w.H p (ys.map V.str) ∨ SqT X.K w.H p (ys.map V.str)) ∧ (ys.map (·.length)).sum + ys.length * a.length ≤ 16777216 ∧ Q (.str (Txt.join a ys)) w.H := by
  unfold joinD at p
  cases e : itemsOf d w.st with
  | none => rw [e] at p; exact p.elim
  | some ds =>
    rw [e] at p
    obtain ⟨q, vs, rfl, hq, rs⟩ := items_ok ok r e
    cases e2 : allS ds with
    | none => simp only [e2] at p; exact p.elim
    | some ss =>
      simp only [e2] at p
      have e3 := allS_ok rs e2
      subst e3
      by_cases hl : (ss.map (·.length)).sum + ss.length * z.length ≤ 16777216
      · rw [if_pos hl] at p
        exact ⟨z, q, ss, rfl, rfl, hq, hl, PR.ret (R := Rep X.K) ok p (.str _)⟩
      · rw [if_neg hl] at p
        exact p.elim
theorem se_join {apos : Pos} (ho : SE X W a ma) (he : SE X W b mb) (hs : starEach [b] X.env = [(false, eval b X.env)] := by rfl) (hbase : attributeBase a "join" X.env (eval a X.env) = eval a X.env := by rfl) (hline : (apos.endLine == pos.line) = true := by rfl) :
    SE X W (.Call (.Attribute a "join" apos) [b] [] pos) (eJoin ma mb) := pe_imp (pe_join ho he hs hbase hline) fun σV H Q q => by
  obtain ⟨w, σ, rfl, ok, sl, p⟩ := q
  refine ⟨w, σ, rfl, ok, sl, PR.bind ok p fun d st x mu H1 e1 s1 ok1 r1 p1 => ?_⟩
  cases r1 with
  | str z =>
    have p1 : PR X.K (Rep X.K) ⟨mu, st, H1, w.op⟩ ((mb σ st).bind fun y st2 => joinD z y st2) Q (xk W σV) := p1
    refine ⟨⟨z, rfl⟩, ?_⟩
    refine ⟨⟨mu, st, H1, w.op⟩, σ, rfl, ok1, sl.step s1 ok, ?_⟩
    refine PR.bind ok1 p1 ?_
    intro d2 st2 y mu2 H2 e2 s2 ok2 r2 p2
    have z2 := joinD_ok (w := ⟨mu2, st2, H2, w.op⟩) ok2 r2 p2
    with_reducible exact z2
  | non => exact False.elim p1
  | bl b => exact False.elim p1
  | int b => exact False.elim p1
  | ty b => exact False.elim p1
  | tup h h2 h3 => exact False.elim p1
  | ktup h h2 => exact False.elim p1
  | lst h h2 h3 h4 => exact False.elim p1
  | scr h h2 h3 h4 => exact False.elim p1
  | kscr h h2 h3 => exact False.elim p1
  | ins h h2 h3 h4 h5 => exact False.elim p1
  | exo h h2 h3 h4 h5 h6 h7 h8 => exact False.elim p1
  | ref h => exact False.elim p1
end
end Sim

set_option Elab.async false
set_option linter.all false
set_option maxRecDepth 100000
set_option maxHeartbeats 4000000
/-! exceptions as values: making one, its fields -/
namespace PySem
namespace SimX
open PySem.W PySem.Calls PyProof.Rows
section
open Builtin Builtin.ObjectAttr
variable {prog : Program} {w : World} {A : Around} {E : Value → Shared → Prop} {R : Result → Shared → Prop} {hp : Heap} {g : Array GenState} {d : Drawn} {t : Nat} {os : OsState} {B : String} {bmB : List Value}
theorem has_cd {K : W.Frag} {C : Addr} {cd : ClassData} (hcd : W.clsIn K C = some cd) (hh : W.hasDictIn K C = true) : cd.hasDict = true := by
  unfold W.hasDictIn at hh
  rw [hcd] at hh
  exact hh
theorem osa_new {K : W.Frag} {name : Str} {tk : Tok} {v : Value} {x C : Addr} {fv : Array Value} {cd : ClassData} (SF : StoreFacts B bmB "object.__setattr__" "object")
    (X : K.In hp) (hx : hp.get? x = some { cls := .ref C, data := .fields fv }) (hcd : W.clsIn K C = some cd) (hp' : W.excOver K C bmB = true) (hh : W.hasDictIn K C = true) (ha : W.takerIn K C name = some none)
    (hq : ∀ h' tk' dx, (∀ b o, b ≠ x → hp.get? b = some o → h'.get? b = some o) → hp.objs.size ≤ dx → dx ≠ x → h'.get? x = some { cls := .ref C, dict := some dx, data := .fields fv } →
      h'.Ns1 dx (fun y => if y = name then some v else none) → R (.ok (.ret .none)) ⟨h', g, d, tk', os⟩) :
    codeAny (model prog w) A (.call (.builtin "object.__setattr__") ⟨[.ref x, .str name tk, v], []⟩) R ⟨hp, g, d, t, os⟩ := by
  have I : W.InstAt hp x { cls := .ref C, data := .fields fv } C none := ⟨hx, rfl, rfl, trivial⟩
  have hxs : x ≠ hp.objs.size := Nat.ne_of_lt (Heap.lt_size hx)
  have hcls : W.Looks (model prog w) hp (classData C) cd := W.looks_clsIn X hcd
  have hd := has_cd hcd hh
  refine W.osa_openX SF X I hp' ha fun b => ?_
  show wpAny _ _ (storeInOwnDict (.ref x) (.ref C) (.str name tk) name v b) _ _ _
  obtain ⟨nm, bs, mro, ns, qn, hdd, sn, sb, ab, col, del⟩ := cd
  dsimp only at hd
  subst hd
  unfold storeInOwnDict ownDictForStores
  repeat (first | with_reducible refine PySem.HandSPX.store_in_new ?_ ?_ | with_reducible refine wpAny_loadPart_at hx ?_ | with_reducible refine hcls.at ?_ | wp_step)
  · exact ⟨_, #[], _, (Heap.get?_update_ne _ _ _ _ hxs.symm).trans (Heap.get?_push_at rfl rfl), rfl, fun e he => absurd he (by simp), fun _ => rfl⟩
  · intro h' tk' hn' hs
    have hx₁ : (hp.push { cls := .type "dict", data := .dict #[] }).get? x = some { cls := .ref C, data := .fields fv } := Heap.get?_push_of_some _ hx
    refine hq h' tk' hp.objs.size (fun b o hb ho => ?_) (Nat.le_refl _) hxs.symm ?_ hn'
    · exact (hs.2 b (Nat.ne_of_lt (Heap.lt_size ho))).trans ((Heap.get?_update_ne _ _ _ _ hb).trans (Heap.get?_push_of_some _ ho))
    · exact (hs.2 x hxs).trans (Heap.get?_update_self _ hx₁ rfl)
theorem osa_old {K : W.Frag} {name : Str} {tk : Tok} {v : Value} {x C dx : Addr} {fv : Array Value} {cd : ClassData} {m0 : Str → Option Value} {nl : List Str} (SF : StoreFacts B bmB "object.__setattr__" "object")
    (X : K.In hp) (hx : hp.get? x = some { cls := .ref C, dict := some dx, data := .fields fv }) (hns : hp.Ns1 dx m0) (hw : Within m0 nl) (hz : nl.length ≤ 1000) (hcd : W.clsIn K C = some cd) (hp' : W.excOver K C bmB = true) (hh : W.hasDictIn K C = true) (ha : W.takerIn K C name = some none)
    (hq : ∀ h' tk', (∀ b o, b ≠ dx → hp.get? b = some o → h'.get? b = some o) → h'.Ns1 dx (fun y => if y = name then some v else m0 y) → R (.ok (.ret .none)) ⟨h', g, d, tk', os⟩) :
    codeAny (model prog w) A (.call (.builtin "object.__setattr__") ⟨[.ref x, .str name tk, v], []⟩) R ⟨hp, g, d, t, os⟩ := by
  obtain ⟨oD, esD, epD, hoD, hdD, _⟩ := hns.count hw
  have I : W.InstAt hp x { cls := .ref C, dict := some dx, data := .fields fv } C (some oD) := ⟨hx, rfl, rfl, hoD⟩
  have hcls : W.Looks (model prog w) hp (classData C) cd := W.looks_clsIn X hcd
  have hd := has_cd hcd hh
  refine W.osa_openX SF X I hp' ha fun b => ?_
  show wpAny _ _ (storeInOwnDict (.ref x) (.ref C) (.str name tk) name v b) _ _ _
  obtain ⟨nm, bs, mro, ns, qn, hdd, sn, sb, ab, col, del⟩ := cd
  dsimp only at hd
  subst hd
  unfold storeInOwnDict ownDictForStores
  repeat (first | with_reducible refine PySem.OEX.store_in_old hns hw hz ?_ | with_reducible refine wpAny_loadPart_at hx ?_ | with_reducible refine hcls.at ?_ | wp_step)
  intro h' tk' hn' hs
  exact hq h' tk' (fun b o hb ho => (hs.2 b hb).trans ho) hn'
end
end SimX
end PySem
namespace Sim
open PySem PySem.Spec PyProof.Rows L2
/-- what the written part says of an exception class of the program, over any built-in base, with an __init__ of its own -/
structure ExG (K : Frag) (C : Addr) : Prop where
  base : ∃ (B newId initId : String) (bmB : List Value), ExcBaseFacts B newId initId bmB ∧ StoreFacts B bmB "object.__setattr__" "object" ∧ PySem.W.excInitIn K C bmB newId = true ∧ PySem.W.excOver K C bmB = true
  hd : PySem.W.hasDictIn K C = true
  sa : PySem.W.findIn K (.ref C) "__setattr__" = some (some (.builtin "object.__setattr__"))
  kC : PySem.W.keepIn K (.ref C) = true
section
variable {X : Cx} {pins : List (Addr × Obj)} {σ : L2.St} {H : Hp} {s : Shared} {a C dx : Addr} {f : Str} {y : V} {u : Value} {fs : List (Str × V)} {Q : Unit → Shared → Prop} {E : Value → Shared → Prop} {A : Around}
theorem ExG.cd {K : Frag} (T : ExG K C) : ∃ cd, PySem.W.clsIn K C = some cd := by
  obtain ⟨B, n, i, bm, _, _, _, q⟩ := T.base
  unfold PySem.W.excOver at q
  cases e : PySem.W.clsIn K C with
  | none => rw [e] at q; cases q
  | some cd => exact ⟨cd, rfl⟩
theorem ostG_new (T : ExG X.K C) (I : Inv X pins σ H s) (e : H a = some (exo a C none)) (hno : PySem.W.findIn X.K (.ref C) f = some none) (ry : RelV y u)
    (h : ∀ dx s', H dx = none → dx ≠ a → Inv X pins σ (upd (upd H dx (exd dx [(f, y)])) a (exo a C (some dx))) s' → Q () s') : wpAny (model X.prog X.w) A (setAttr (.ref a) f u) Q E s := by
  obtain ⟨cd, hcl⟩ := T.cd
  obtain ⟨B, n, i, bm, FB, SF, _, ov⟩ := T.base
  obtain ⟨t1, ho⟩ := exo_at I.hok e
  obtain ⟨hp, g, d, t, os⟩ := s
  refine PySem.W.set_plain I.kIn (ox := { cls := .ref C, dict := none, data := .fields #[.ref t1, .none, .none, .none, .bool false, .none] }) (od := none) ⟨ho, rfl, rfl, trivial⟩ T.sa ?_
  refine PySem.SimX.osa_new SF I.kIn ho hcl ov T.hd (NoAttr.taker hno) (fun h' tk' dx k dn dne hx hn => ?_)
  have hnd : H dx = none := I.hok.fresh dn
  have nd : ∀ {b : Addr} {o : Obj}, hp.get? b = some o → b ≠ dx := fun {b o} q => Nat.ne_of_lt (Nat.lt_of_lt_of_le (Heap.lt_size q) dn)
  have na : ∀ {b : Addr}, H b = none → b ≠ a := fun {b} n z => by
    rw [z, e] at n
    cases n
  have Un1 : Un X.fs [] H (upd (upd H dx (exd dx [(f, y)])) a (exo a C (some dx))) hp h' := {
    keep := fun b o q n _ _ => k b o (na n) q
    slot := fun b o q n _ _ => ⟨o.slots, k b o (na n) q⟩
    free := fun b o q n _ => by rw [upd_ne (na n), upd_ne (nd q)]; exact n
    there := fun b o q _ => by
      by_cases hb : b = a
      · exact ⟨_, by rw [hb]; exact hx⟩
      · exact ⟨o, k b o hb q⟩
    tups := fun b xs q => by rw [upd_ne (at_ne e q exo_tup), upd_ne (ne_of_none q hnd)]; exact q
    frzs := fun b o v q => by rw [upd_ne (at_ne e q exo_frz), upd_ne (ne_of_none q hnd)]; exact q
    tbls := fun b ps q => ⟨#[], by rw [upd_ne (at_ne e q exo_tbl), upd_ne (ne_of_none q hnd), q]; simp⟩ }
  refine h dx _ hnd dne (I.un (t' := tk') Un1 fun b o q => ?_)
  by_cases hb : b = a
  · subst hb
    rw [upd_same] at q
    cases q
    exact exo_ok hx
  · rw [upd_ne hb] at q
    by_cases hd : b = dx
    · subst hd
      rw [upd_same] at q
      cases q
      exact exd_ok hn (relO_put (fs := []) ry fun g => True.intro)
    · rw [upd_ne hd] at q
      exact (I.hok b o q).stay (fun c v hc z => k c v (by
          rcases hc with hc | hc
          · rw [hc]
            exact hb
          · exact at_ne e hc exo_own) z)
        (fun c hc => by rw [upd_ne (at_ne e hc exo_own), upd_ne (ne_of_none hc hnd)]; exact hc) (fun c xs hc => by rw [upd_ne (at_ne e hc exo_tup), upd_ne (ne_of_none hc hnd)]; exact hc)
theorem ostG_old (T : ExG X.K C) (I : Inv X pins σ H s) (e : H a = some (exo a C (some dx))) (ed : H dx = some (exd dx fs)) (hl : fs.length ≤ 900) (hno : PySem.W.findIn X.K (.ref C) f = some none) (ry : RelV y u)
    (h : ∀ s', Inv X pins σ (upd H dx (exd dx ((f, y) :: fs))) s' → Q () s') : wpAny (model X.prog X.w) A (setAttr (.ref a) f u) Q E s := by
  obtain ⟨cd, hcl⟩ := T.cd
  obtain ⟨B, n, i, bm, FB, SF, _, ov⟩ := T.base
  obtain ⟨t1, ho⟩ := exo_at I.hok e
  obtain ⟨mA, hns, rel⟩ := exd_at I.hok ed
  have hw := within_of rel
  obtain ⟨hp, g, d, t, os⟩ := s
  obtain ⟨oD, _, _, hoD, _, _⟩ := hns.count hw
  refine PySem.W.set_plain I.kIn (ox := { cls := .ref C, dict := some dx, data := .fields #[.ref t1, .none, .none, .none, .bool false, .none] }) (od := some oD) ⟨ho, rfl, rfl, hoD⟩ T.sa ?_
  refine PySem.SimX.osa_old SF I.kIn ho hns hw (by rw [List.length_map]; omega) hcl ov T.hd (NoAttr.taker hno) (fun h' tk' k hn => ?_)
  have hd : ∃ o, h'.get? dx = some o := by
    obtain ⟨o, _, _, e', _⟩ := hn
    exact ⟨o, e'⟩
  exact h _ (I.write (t' := tk') (x := dx) (e := dx) (o := exd dx ((f, y) :: fs)) (by rw [ed]; exact True.intro) (.inl rfl) k hd (exd_ok hn (relO_put ry rel)))
end
/-- self.f = e in an exception's __init__ -/
def tOsG (K : Frag) (f : Str) (to te : TE) : TS := fun D σ H => te σ H fun y H1 => to σ H1 fun x H2 => ∃ a C : Addr, x = .ref a ∧ ExG K C ∧ PySem.W.findIn K (.ref C) f = some none ∧
  ((H2 a = some (exo a C none) ∧ ∀ dx, H2 dx = none → dx ≠ a → D.nx σ (upd (upd H2 dx (exd dx [(f, y)])) a (exo a C (some dx)))) ∨
    ∃ (dx : Addr) (fs : List (Str × V)), H2 a = some (exo a C (some dx)) ∧ H2 dx = some (exd dx fs) ∧ fs.length ≤ 900 ∧ D.nx σ (upd H2 dx (exd dx ((f, y) :: fs))))
theorem ps_osG {X : Cx} {o e : Expr} {to te : TE} {f : Str} {p' pos : Pos} (ho : PE X o to) (he : PE X e te) (hs : swapsWith e (some (.Attribute o f p')) pos.line X.env = pure false := by rfl) : PS X (.Assign [.Attribute o f p'] e pos) (tOsG X.K f to te) := by
  refine ⟨fun pins s σ H D I h => ?_⟩
  refine plainObj_wpAny_Assign_Attribute (thn (he.run pins s σ H _ I h) fun v s1 ⟨y, H1, I1, r1, q1⟩ => thn (ho.run pins s1 σ H1 _ I1 q1) fun u s2 ⟨x, H2, I2, r2, a, C, ex, T, hno, q⟩ => ?_) hs
  subst ex
  obtain rfl : u = Value.ref a := r2
  rcases q with ⟨ea, q⟩ | ⟨dx, fs, ea, ed, hl, q⟩
  · exact ostG_new T I2 ea hno r1 fun dx s' n ne J => ⟨σ, _, J, q dx n ne⟩
  · exact ostG_old T I2 ea ed hl hno r1 fun s' J => ⟨σ, _, J, q⟩
end Sim

set_option Elab.async false
set_option linter.all false
set_option maxRecDepth 100000
set_option maxHeartbeats 4000000
namespace PySem
namespace SimX
open PySem.W PySem.Calls PyProof.Rows PySem.HandSPX
section
variable {M : Model} {A : Around} {E : Value → Shared → Prop} {h : Heap} {g : Array GenState} {d : Drawn} {t : Nat} {os : OsState}
variable {nm q : Str} {C N : Addr} {bs bm bmB : List Value} {hdct : Bool} {sn : List Str} {sub : List Value} {ab : Bool} {col : Option Bool} {dd : Option Addr} {k0 k1 k2 k3 k5 : Option Value} {B newId initId : String}
theorem check_newK (F : ExcBaseFacts B newId initId bmB) (hT : ∀ X : String, bm.contains (.type X) = bmB.contains (.type X)) {rest : List Value} {kw : List (Str × Value)} {Q : Unit → Shared → Prop}
    (hC : h.get? C = some (excClassObj nm q C N bs bm hdct sn sub ab col dd k0 k1 k2 k3 k5 newId)) (hq : Q () ⟨h, g, d, t, os⟩) : wpAny M A (checkBuiltinCall newId ⟨.ref C :: rest, kw⟩) Q E ⟨h, g, d, t, os⟩ := by
  have hcont : (Value.ref C :: bm).contains (.type B) = true := by rw [List.contains_cons, hT, F.hasB, Bool.or_true]
  have hstar := F.noStar
  simp only [checkBuiltinCall, F.newKind, F.newSplit, F.newRow]
  repeat (first | refine wpAny_loadPart_at hC ?_ | (refine wpAny_isSubtype_exc hC ?_; rw [hcont]) | refine wpAny_staticBase_exc hC ?_ | refine wpAny_madeBy_exc hC ?_ | simp only [bne_self_eq_false, Bool.false_eq_true, if_false] | wp_step)
  exact hq
end
section
variable {prog : Program} {w : World} {A : Around} {E : Value → Shared → Prop} {R : Result → Shared → Prop} {h : Heap} {g : Array GenState} {d : Drawn} {t : Nat} {os : OsState}
variable {nm q : Str} {C N : Addr} {bs bm bmB : List Value} {hdct : Bool} {sn : List Str} {sub : List Value} {ab : Bool} {col : Option Bool} {dd : Option Addr} {k0 k1 k2 k3 k5 : Option Value} {B newId initId : String}
theorem newK (F : ExcBaseFacts B newId initId bmB) (hT : ∀ X : String, bm.contains (.type X) = bmB.contains (.type X)) {rest : List Value} {kw : List (Str × Value)}
    (hC : h.get? C = some (excClassObj nm q C N bs bm hdct sn sub ab col dd k0 k1 k2 k3 k5 newId))
    (hq : R (.ok (.ret (.ref (h.objs.size + 1)))) ⟨(h.push { cls := .type "tuple", data := .seq rest.toArray }).push
      { cls := .ref C, data := .fields #[.ref h.objs.size, .none, .none, .none, .bool false, .none] }, g, d, t, os⟩) (hrest : rest.length ≤ sizeLine) :
    codeAny (model prog w) A (.builtin newId ⟨.ref C :: rest, kw⟩) R ⟨h, g, d, t, os⟩ := by
  have hends := F.ends
  have hcB : (Value.ref C :: bm).contains (.type B) = true := by rw [List.contains_cons, hT, F.hasB, Bool.or_true]
  have hcA : (Value.ref C :: bm).contains (.type "AttributeError") = false := by rw [List.contains_cons, hT, F.noAttr]; rfl
  have hcN : (Value.ref C :: bm).contains (.type "NameError") = false := by rw [List.contains_cons, hT, F.noName]; rfl
  refine codeAny_builtinAt F.entry ?_
  unfold Builtin.«BaseException.__new__»
  refine wpAt_bind ?_
  show wpAt _ _ _ (stack >>= _) _ _ _
  refine wpAt_bind (wpAt_stack fun p below => wpAt_of_wpAny ?_)
  wp_walk
  refine wpAt_of_wpAny ?_
  rw [F.owner]
  repeat (first | with_reducible refine wpAny_madeHere_exc F.canon hC ?_ | with_reducible refine wpAny_loadPart_at hC ?_ | (with_reducible refine wpAny_isSubtype_exc hC ?_; first | rw [hcB] | rw [hcA] | rw [hcN]) | wp_step)
  show R _ _
  rw [Heap.size_push]
  exact hq
theorem type_callK (F : ExcBaseFacts B newId initId bmB) (hT : ∀ X : String, bm.contains (.type X) = bmB.contains (.type X)) {rest : List Value} {kw : List (Str × Value)} {fI : Addr} {Q : Fin → Shared → Prop}
    (hC : h.get? C = some (excClassObj nm q C N bs bm hdct sn sub ab col dd k0 k1 k2 k3 k5 newId))
    (hi : W.Looks (model prog w) h (typeLookup (.ref C) "__init__") (some (.ref fI))) (hb : ∀ self, W.Looks (model prog w) h (bindSpecial (.ref fI) self) (.ref fI, [self])) (hrest : rest.length ≤ sizeLine)
    (hq : codeAny (model prog w) A (.call (.ref fI) ⟨.ref (h.objs.size + 1) :: rest, kw⟩)
      (fun r s' => match r with | .ok (.ret v) => v = .none ∧ Q (.done (.ret (.ref (h.objs.size + 1)))) s' | .ok _ => False | .error e => E e s')
      ⟨(h.push (W.kdv_tup rest)).push (excO C h.objs.size), g, d, t, os⟩) :
    wpAny (model prog w) A (Builtin.«type.__call__» ⟨.ref C :: rest, kw⟩) Q E ⟨h, g, d, t, os⟩ := by
  repeat (first | with_reducible refine wpAny_loadPart_at hC ?_ | with_reducible refine wpAny_madeBy_exc hC ?_ | wp_step)
  refine codeAny_call_builtin_code (Code.quiet_builtin _ F.quiet) (check_newK F hT hC ?_)
  refine newK F hT hC ?_ hrest
  show wpAny _ _ _ _ _ _
  have k : ∀ b o, h.get? b = some o → ((h.push (W.kdv_tup rest)).push (excO C h.objs.size)).get? b = some o := fun b o e => Heap.get?_push_of_some _ (Heap.get?_push_of_some _ e)
  have hC₁ := k _ _ hC
  have hget : ((h.push (W.kdv_tup rest)).push (excO C h.objs.size)).get? (h.objs.size + 1) = some (excO C h.objs.size) := by heap_get
  have hcC : (Value.ref C :: bm).contains (.ref C) = true := by simp
  have i1 := hi.keeps k
  have b1 := (hb (.ref (h.objs.size + 1))).keeps k
  unfold isInstance
  repeat (first | with_reducible refine wpAny_loadPart_at hget ?_ | (with_reducible refine wpAny_isSubtype_exc hC₁ ?_; rw [hcC]) | wp_step)
  show wpAny _ _ (typeLookup (.ref C) _) _ _ _
  refine i1.at ?_
  refine wpAny_holding (wpAny_bind (b1.at ?_))
  refine wpAny_bind (wpAny_call (codeAny_mono hq fun r s' z => ?_))
  rcases r with e | (v | _ | _ | _) <;> first | exact z | exact z.elim | skip
  obtain ⟨rfl, z⟩ := z
  first
    | exact wpAny_pure (wpAny_pure z)
    | (wp_walk; exact z)
theorem check_tcK {rest : List Value} {kw : List (Str × Value)} {Q : Unit → Shared → Prop} {M : Model} (hC : h.get? C = some (excClassObj nm q C N bs bm hdct sn sub ab col dd k0 k1 k2 k3 k5 newId))
    (hq : Q () ⟨h, g, d, t, os⟩) : wpAny M A (checkBuiltinCall "type.__call__" ⟨.ref C :: rest, kw⟩) Q E ⟨h, g, d, t, os⟩ := by
  have f3 := tc_sub
  have hT : (⟨h, g, d, t, os⟩ : Shared).TypeIs (.ref C) "type" := ⟨_, hC, rfl⟩
  simp only [checkBuiltinCall, tc_kind, tc_split]
  repeat (any_goals (first | assumption | with_reducible refine wpAny_loadPart_at hC ?_ | with_reducible refine wpAny_onRaise ?_ | with_reducible refine wpAny_map ?_ | wp_step))
theorem callK (F : ExcBaseFacts B newId initId bmB) (hT : ∀ X : String, bm.contains (.type X) = bmB.contains (.type X)) {rest : List Value} {kw : List (Str × Value)} {fI : Addr}
    (hC : h.get? C = some (excClassObj nm q C N bs bm hdct sn sub ab col dd k0 k1 k2 k3 k5 newId))
    (hi : W.Looks (model prog w) h (typeLookup (.ref C) "__init__") (some (.ref fI))) (hb : ∀ self, W.Looks (model prog w) h (bindSpecial (.ref fI) self) (.ref fI, [self])) (hrest : rest.length ≤ sizeLine)
    (hq : codeAny (model prog w) (A.under (.builtin "type.__call__" ⟨.ref C :: rest, kw⟩)) (.call (.ref fI) ⟨.ref (h.objs.size + 1) :: rest, kw⟩) (W.InitBack (h.objs.size + 1) R)
      ⟨(h.push (W.kdv_tup rest)).push (excO C h.objs.size), g, d, t, os⟩) :
    codeAny (model prog w) A (.call (.ref C) ⟨rest, kw⟩) R ⟨h, g, d, t, os⟩ := by
  have f1 := tc_lookup
  have f2 := tc_bind (.ref C)
  have hTy : (⟨h, g, d, t, os⟩ : Shared).TypeIs (.ref C) "type" := ⟨_, hC, rfl⟩
  refine codeAny_of_tree ?_
  show wpAny _ _ (callAny (.ref C) _) _ _ _
  repeat (any_goals (first | assumption | with_reducible refine wpAny_loadPart_at hC ?_ | wp_step))
  refine ⟨rfl, ?_⟩
  refine codeAny_call_builtin_at (Code.quiet_builtin _ (by decide +kernel)) entry_typeCall (check_tcK hC (type_callK F hT hC hi hb hrest ?_))
  refine codeAny_mono hq fun r s' z => ?_
  rcases r with e | (v | _ | _ | _) <;> exact z
end
end SimX
end PySem

set_option Elab.async false
set_option linter.all false
set_option maxRecDepth 100000
set_option maxHeartbeats 4000000
namespace Sim
open PySem PySem.Spec PyProof.Rows L2
/-! ### an exception that is being made: its __init__ -/
inductive Fl where
  | a (i : Nat) | s (z : Str)
def Fl.v (vs : List V) : Fl → Option V
  | .a i => vs[i]?
  | .s z => some (.str z)
def Fl.d (vs : List D) : Fl → Option D
  | .a i => vs[i]?
  | .s z => some (.str z)
def tpV : List (Str × Fl) → List V → Option (List (Str × V))
  | [], _ => some []
  | (f, l) :: r, vs => match l.v vs, tpV r vs with
    | some x, some xs => some ((f, x) :: xs)
    | _, _ => none
def tpD : List (Str × Fl) → List D → Option (List (Str × D))
  | [], _ => some []
  | (f, l) :: r, vs => match l.d vs, tpD r vs with
    | some x, some xs => some ((f, x) :: xs)
    | _, _ => none
theorem tpD_rep {K : Frag} {w : Wd} {vs : List V} {ds : List D} (r : Reps K w vs ds) : ∀ {tp : List (Str × Fl)} {fs : List (Str × D)}, tpD tp ds = some fs → ∃ fv, tpV tp vs = some fv ∧ RepF K w fv fs ∧ fs.map (·.1) = tp.map (·.1)
  | [], fs, e => by cases e; exact ⟨[], rfl, .nil, rfl⟩
  | (f, l) :: tp, fs, e => by
    unfold tpD at e
    cases e1 : l.d ds with
    | none => simp only [e1] at e; cases e
    | some x =>
      cases e2 : tpD tp ds with
      | none => simp only [e1, e2] at e; cases e
      | some xs =>
        simp only [e1, e2] at e
        cases e
        obtain ⟨fv, h1, h2, h3⟩ := tpD_rep r e2
        have : ∃ v, l.v vs = some v ∧ Rep K w v x := by
          cases l with
          | a i => exact r.get e1
          | s z => cases e1; exact ⟨_, rfl, .str z⟩
        obtain ⟨v, h4, h5⟩ := this
        refine ⟨(f, v) :: fv, ?_, .cons h5 h2, by simp [h3]⟩
        unfold tpV
        simp only [h4, h1]
def spI (C : Addr) (n : Nat) (tp : List (Str × Fl)) : Sp := fun vs H Q _ => ∃ (a : Addr) (ws : List V) (fs : List (Str × V)), vs = .ref a :: ws ∧ ws.length = n ∧ H a = some (exo a C none) ∧ tpV tp ws = some fs ∧ ∀ d, H d = none → d ≠ a → Q .non (upd (upd H d (exd d fs)) a (exo a C (some d)))
theorem spI.len {C : Addr} {n : Nat} {tp : List (Str × Fl)} {vs : List V} {H : Hp} {Q : VK} {E : XK} (h : spI C n tp vs H Q E) : vs.length = n + 1 := by
  obtain ⟨a, ws, fs, rfl, l, _⟩ := h
  simp [l]
theorem upd2 {H : Hp} {a d : Addr} {x y z : HO} (h : d ≠ a) : upd (upd (upd H d x) a y) d z = upd (upd H d z) a y := by
  funext b
  by_cases h1 : b = d
  · subst h1; rw [upd_same, upd_ne h, upd_same]
  · rw [upd_ne h1]
    by_cases h2 : b = a
    · subst h2; rw [upd_same, upd_same]
    · rw [upd_ne h2, upd_ne h2, upd_ne h1, upd_ne h1]
section
variable {P : Program} {w : World} {K : Frag} {mg : Str → Option Value} {base : Heap} {C fI : Addr} {fd : FuncData} {qual : Str} {params : Arguments} {scope : Scope} {p1 p2 p3 p4 q1 q2 q3 q4 r1 r2 r3 r4 : Pos}
/-- code alone -/
theorem ok_init1 {z : Str} {j} (T : ExG K C) (h1 : PySem.W.findIn K (.ref C) "code" = some none)
    (F : FunD K "__init__" qual params [.Assign [.Attribute (.Name "self" p1) "code" p2] (.Constant (.str z) j p3) p4] scope [] [] fI fd) (S : FnScope ["self"] ["self"] scope) :
    FnOk P w K mg base (CXp P w) 1 fI fd ["self"] (spI C 0 [("code", .s z)]) := by
  have hself : Vis scope "self" := by
    rcases S.par "self" (by simp) with h | h
    · exact .inl h
    · exact .inr (.inl h)
  refine F.ok S (fun vs H Q E h => h.len) fun cdv A outer s H vs Q E hr h => ⟨_, pss_one (ps_osG (pe_var (i := 0) rfl hself) pe_str), ?_⟩
  obtain ⟨a, ws, fs, rfl, l, ha, e, q⟩ := h
  cases ws with
  | cons _ _ => cases l
  | nil =>
    cases e
    exact ⟨_, rfl, a, C, rfl, T, h1, .inl ⟨ha, fun dx hd hn => q dx hd hn⟩⟩
theorem ok_init2 {f : Str} {z : Str} {j} (T : ExG K C) (hf : (f == ("__debug__" : Str)) = false) (hc : (f == ("__classdict__" : Str)) = false) (h1 : PySem.W.findIn K (.ref C) "code" = some none) (h2 : PySem.W.findIn K (.ref C) f = some none)
    (F : FunD K "__init__" qual params [.Assign [.Attribute (.Name "self" p1) f p2] (.Name f p3) p4, .Assign [.Attribute (.Name "self" q1) "code" q2] (.Constant (.str z) j q3) q4] scope [] [] fI fd) (S : FnScope ["self", f] ["self", f] scope) :
    FnOk P w K mg base (CXp P w) 1 fI fd ["self", f] (spI C 1 [("code", .s z), (f, .a 0)]) := by
  have hself : Vis scope "self" := by
    rcases S.par "self" (by simp) with h | h
    · exact .inl h
    · exact .inr (.inl h)
  have hv : Vis scope f := by
    rcases S.par f (by simp) with h | h
    · exact .inl h
    · exact .inr (.inl h)
  refine F.ok S (fun vs H Q E h => h.len) fun cdv A outer s H vs Q E hr h => ⟨_, pss_cons (ps_osG (pe_var (i := 0) rfl hself) (pe_var (i := 1) rfl hv hf hc)) (pss_one (ps_osG (pe_var (i := 0) rfl hself) pe_str)), ?_⟩
  obtain ⟨a, ws, fs, rfl, l, ha, e, q⟩ := h
  match ws, l with
  | [x], _ =>
    cases e
    refine ⟨x, rfl, _, rfl, a, C, rfl, T, h2, .inl ⟨ha, fun dx hd hn => ?_⟩⟩
    refine ⟨_, rfl, a, C, rfl, T, h1, .inr ⟨dx, _, upd_same, by rw [upd_ne hn, upd_same], by simp, ?_⟩⟩
    rw [upd2 hn]
    exact q dx hd hn
theorem ok_init3 {f g : Str} {z : Str} {j} (T : ExG K C) (hf : (f == ("__debug__" : Str)) = false) (hc : (f == ("__classdict__" : Str)) = false) (hg : (g == ("__debug__" : Str)) = false) (hgc : (g == ("__classdict__" : Str)) = false)
    (h1 : PySem.W.findIn K (.ref C) "code" = some none) (h2 : PySem.W.findIn K (.ref C) f = some none) (h3 : PySem.W.findIn K (.ref C) g = some none)
    (F : FunD K "__init__" qual params [.Assign [.Attribute (.Name "self" p1) f p2] (.Name f p3) p4, .Assign [.Attribute (.Name "self" r1) g r2] (.Name g r3) r4, .Assign [.Attribute (.Name "self" q1) "code" q2] (.Constant (.str z) j q3) q4] scope [] [] fI fd) (S : FnScope ["self", f, g] ["self", f, g] scope) :
    FnOk P w K mg base (CXp P w) 1 fI fd ["self", f, g] (spI C 2 [("code", .s z), (g, .a 1), (f, .a 0)]) := by
  have hself : Vis scope "self" := by
    rcases S.par "self" (by simp) with h | h
    · exact .inl h
    · exact .inr (.inl h)
  have hv : Vis scope f := by
    rcases S.par f (by simp) with h | h
    · exact .inl h
    · exact .inr (.inl h)
  have hv2 : Vis scope g := by
    rcases S.par g (by simp) with h | h
    · exact .inl h
    · exact .inr (.inl h)
  refine F.ok S (fun vs H Q E h => h.len) fun cdv A outer s H vs Q E hr h => ⟨_, pss_cons (ps_osG (pe_var (i := 0) rfl hself) (pe_var (i := 1) rfl hv hf hc)) (pss_cons (ps_osG (pe_var (i := 0) rfl hself) (pe_var (i := 2) rfl hv2 hg hgc)) (pss_one (ps_osG (pe_var (i := 0) rfl hself) pe_str))), ?_⟩
  obtain ⟨a, ws, fs, rfl, l, ha, e, q⟩ := h
  match ws, l with
  | [x, y], _ =>
    cases e
    refine ⟨x, rfl, _, rfl, a, C, rfl, T, h2, .inl ⟨ha, fun dx hd hn => ?_⟩⟩
    refine ⟨y, rfl, _, rfl, a, C, rfl, T, h3, .inr ⟨dx, _, upd_same, by rw [upd_ne hn, upd_same], by simp, ?_⟩⟩
    rw [upd2 hn]
    refine ⟨_, rfl, a, C, rfl, T, h1, .inr ⟨dx, _, upd_same, by rw [upd_ne hn, upd_same], by simp, ?_⟩⟩
    rw [upd2 hn]
    exact q dx hd hn
end
/-! ### binding by keywords -/
def gB (rv : Bool) {α : Type} (us ws : List α) : List α := us ++ (if rv = true then ws.reverse else ws)
theorem Vals.gB {rv : Bool} {vs zs : List V} {us ws : List Value} (r : Vals vs us) (s : Vals zs ws) : Vals (Sim.gB rv vs zs) (Sim.gB rv us ws) := by
  unfold Sim.gB
  refine r.append ?_
  cases rv with
  | false => exact s
  | true =>
    rw [if_pos rfl, if_pos rfl]
    clear r
    induction s with
    | nil => exact .nil
    | cons h t ih =>
      rw [List.reverse_cons, List.reverse_cons]
      exact ih.append (.cons h .nil)
theorem kbn {K : Frag} {x qual : Str} {params : Arguments} {body : List Stmt} {scope : Scope} {f : Addr} {fd : FuncData} {ps : List Str} (F : FunD K x qual params body scope [] [] f fd) (n : Nat) (ks : List Str) (rv : Bool)
    (h : ∀ (kV doc pm : Value) (an : Option Addr) (cdv ct : Value) (us ws : List Value), us.length = n → ws.length = ks.length → bindArgs (PySem.W.fnOf x qual params body scope .none kV doc pm an cdv ct) ⟨us, ks.zip ws⟩ = pure (ps.zip (gB rv us ws))) :
    KBn K fd ps n ks (gB rv) (gB rv) := by
  obtain ⟨oc, od, dV, kV, doc, pm, an, cdv, ct, osl, rfl, lk, hcd, hD, hK⟩ := F.ex
  rcases hD with ⟨_, rfl⟩ | ⟨e, _⟩
  · exact ⟨fun s us ws _ l1 l2 => .of_eq (h kV doc pm an cdv ct us ws l1 l2), fun r s => Vals.gB r s⟩
  · exact absurd rfl e
section
variable {X : Cx} {pins : List (Addr × Obj)} {σ : L2.St} {H : Hp} {s : Shared} {C fI : Addr} {k n : Nat} {fd : FuncData} {ps ks : List Str} {tp : List (Str × Fl)} {rv : Bool}
theorem xo_ext {a C d b : Addr} : xo a C d ≠ .own b := fun z => by
  have z' : HO.ext _ = HO.own b := z
  cases z'
/-- the exception stands: as a value from here on -/
theorem recast {a d : Addr} {fs : List (Str × V)} (I : Inv X pins σ (upd (upd H d (exd d fs)) a (exo a C (some d))) s) (hd : H d = none) (ha : H a = none) (hn : d ≠ a) : Inv X pins σ (upd (upd H d (.xd fs)) a (xo a C d)) s := by
  obtain ⟨t1, he⟩ := exo_at I.hok upd_same
  obtain ⟨mA, hns, rel⟩ := exd_at (fs := fs) (dx := d) I.hok (by rw [upd_ne hn, upd_same])
  have key : ∀ b o, b ≠ a → b ≠ d → (upd (upd H d (exd d fs)) a (exo a C (some d)) b = some o ↔ upd (upd H d (.xd fs)) a (xo a C d) b = some o) := fun b o h1 h2 => by rw [upd_ne h1, upd_ne h2, upd_ne h1, upd_ne h2]
  have nx : ∀ {b : Addr} {o : HO}, upd (upd H d (exd d fs)) a (exo a C (some d)) b = some o → o ≠ exo a C (some d) → o ≠ exd d fs → b ≠ a ∧ b ≠ d := fun {b o} h h1 h2 => by
    refine ⟨fun z => ?_, fun z => ?_⟩
    · rw [z, upd_same] at h; exact h1 (Option.some.inj h).symm
    · rw [z, upd_ne hn, upd_same] at h; exact h2 (Option.some.inj h).symm
  obtain ⟨hp, g, dr, tk, os⟩ := s
  refine I.un (t' := tk) (h' := hp) ⟨fun b o q _ _ _ => q, fun b o q _ _ _ => ⟨o.slots, q⟩, fun b o q n _ => ?_, fun b o q _ => ⟨o, q⟩, fun b xs q => ?_, fun b o v q => ?_, fun b ps q => ⟨#[], ?_⟩⟩ fun b o q => ?_
  · have h1 : b ≠ a := fun z => by rw [z, upd_same] at n; cases n
    have h2 : b ≠ d := fun z => by rw [z, upd_ne hn, upd_same] at n; cases n
    rw [upd_ne h1, upd_ne h2] at n ⊢
    exact n
  · obtain ⟨h1, h2⟩ := nx q exo_tup.symm exd_tup.symm
    exact (key _ _ h1 h2).mp q
  · have h3 : exd d fs ≠ .frz o v := fun z => by
      have z' : HO.ext _ = HO.frz o v := z
      cases z'
    obtain ⟨h1, h2⟩ := nx q exo_frz.symm h3.symm
    exact (key _ _ h1 h2).mp q
  · have h3 : exd d fs ≠ .tbl ps := fun z => by
      have z' : HO.ext _ = HO.tbl ps := z
      cases z'
    obtain ⟨h1, h2⟩ := nx q exo_tbl.symm h3.symm
    have := (key _ _ h1 h2).mp q
    simpa using this
  · by_cases h1 : b = a
    · subst h1
      rw [upd_same] at q
      cases q
      exact ⟨⟨_, _, he, rfl, rfl, rfl⟩, ⟨_, he⟩, fun _ _ ⟨o, vs, e1, e2⟩ k => ⟨o, vs, k _ e1, e2⟩⟩
    · rw [upd_ne h1] at q
      by_cases h2 : b = d
      · subst h2
        rw [upd_same] at q
        cases q
        exact ⟨mA, hns, rel⟩
      · rw [upd_ne h2] at q
        have q0 : upd (upd H d (exd d fs)) a (exo a C (some d)) b = some o := by rw [upd_ne h1, upd_ne h2]; exact q
        refine (I.hok b o q0).stay (fun _ _ _ z => z) (fun c hc => ?_) fun c xs hc => ?_
        · obtain ⟨h3, h4⟩ := nx hc exo_own.symm exd_own.symm
          exact (key _ _ h3 h4).mp hc
        · obtain ⟨h3, h4⟩ := nx hc exo_tup.symm exd_tup.symm
          exact (key _ _ h3 h4).mp hc
theorem run_mkX {CX : CXT} {Q : VK} {us ws : List Value} {vs zs : List V} (T : ExG X.K C) (iC : PySem.W.findIn X.K (.ref C) "__init__" = some (some (.ref fI))) (tI : PySem.W.typeIn X.K (.ref fI) = some (.type "function"))
    (F1 : FnOk X.prog X.w X.K X.mg X.base CX k fI fd ps (spI C n tp)) (hr : Room (k + 1) X.A) (hb : KBn X.K fd ps (vs.length + 1) ks (gB rv) (gB rv)) (hx : Passes CX X (fun _ _ _ => False))
    (I : Inv X pins σ H s) (r : Vals vs us) (rz : Vals zs ws) (l2 : zs.length = ks.length) (hl : vs.length ≤ 1000) (hn : (gB rv vs zs).length = n)
    (h : ∃ fs, tpV tp (gB rv vs zs) = some fs ∧ ∀ a d, H a = none → H d = none → d ≠ a → Q (.ref a) (upd (upd H d (.xd fs)) a (xo a C d))) :
    wpAny (model X.prog X.w) X.A (call (.ref C) us (ks.zip ws)) (EP X pins σ Q) X.xe s := by
  obtain ⟨B, newId, initId, bmB, FB, SF, q0, ov⟩ := T.base
  obtain ⟨nm, N, qn, bs, bm, hdct, sn, sub, ab, col, dd, k0, k1, k2, k3, k5, hC, hT⟩ := PySem.W.excInit_of I.kIn q0
  obtain ⟨fs, hfs, hq0⟩ := h
  obtain ⟨hp, g, dr, tk, os⟩ := s
  have hsz : hp.objs.size ≤ hp.objs.size + 1 := Nat.le_succ _
  have hn0 : H (hp.objs.size + 1) = none := I.hok.fresh hsz
  have kk : ∀ b o, hp.get? b = some o → ((hp.push (PySem.W.kdv_tup us)).push (PySem.HandSPX.excO C hp.objs.size)).get? b = some o := fun b o e => Heap.get?_push_of_some _ (Heap.get?_push_of_some _ e)
  have hget : ((hp.push (PySem.W.kdv_tup us)).push (PySem.HandSPX.excO C hp.objs.size)).get? (hp.objs.size + 1) = some (PySem.HandSPX.excO C hp.objs.size) := by heap_get
  have I2 : Inv X pins σ (upd H (hp.objs.size + 1) (exo (hp.objs.size + 1) C none)) ⟨(hp.push (PySem.W.kdv_tup us)).push (PySem.HandSPX.excO C hp.objs.size), g, dr, tk, os⟩ :=
    I.laid (t' := tk) (a := hp.objs.size + 1) (o := exo (hp.objs.size + 1) C none) (h' := (hp.push (PySem.W.kdv_tup us)).push (PySem.HandSPX.excO C hp.objs.size)) kk hsz (exo_ok hget)
  have r1 : Vals (V.ref (hp.objs.size + 1) :: vs) (Value.ref (hp.objs.size + 1) :: us) := .cons rfl r
  have r2 := hb.rel r1 rz
  have n1 : (Value.ref (hp.objs.size + 1) :: us).length = vs.length + 1 := by rw [List.length_cons, ← r.length]
  have hus : us.length ≤ sizeLine := by
    rw [← Paired.length r, sizeLine_eq]
    omega
  have hq : spI C n tp (gB rv (V.ref (hp.objs.size + 1) :: vs) zs) (upd H (hp.objs.size + 1) (exo (hp.objs.size + 1) C none)) (fun v H2 => v = .non ∧ ∃ d, H d = none ∧ d ≠ hp.objs.size + 1 ∧ H2 = upd (upd H d (exd d fs)) (hp.objs.size + 1) (exo (hp.objs.size + 1) C (some d))) (fun _ _ _ => False) := by
    refine ⟨hp.objs.size + 1, gB rv vs zs, fs, by unfold gB; rw [List.cons_append], hn, upd_same, hfs, fun d hd hne => ⟨rfl, d, by rw [upd_ne hne] at hd; exact hd, hne, ?_⟩⟩
    funext b
    by_cases h1 : b = hp.objs.size + 1
    · rw [h1, upd_same, upd_same]
    · rw [upd_ne h1, upd_ne h1]
      by_cases h2 : b = d
      · rw [h2, upd_same, upd_same]
      · rw [upd_ne h2, upd_ne h2, upd_ne h1]
  refine wpAny_call (PySem.SimX.callK FB hT hC (PySem.W.looks_findIn I.kIn iC) (fun self => PySem.W.bind_fn I.kIn self tI) hus (codeAny_mono (F1.run _ X.stack _ _ ⟨Value.ref (hp.objs.size + 1) :: us, ks.zip ws⟩ (gB rv (Value.ref (hp.objs.size + 1) :: us) ws) _ _ (fun _ _ _ => False) (hr.make C us (ks.zip ws))
    (I2.env0.make C us (ks.zip ws)) (hb.to _ (Value.ref (hp.objs.size + 1) :: us) ws I2.kIn n1 (rz.length.symm.trans l2)) r2 hq) fun r s' hq' => ?_))
  cases r with
  | error e => exact hx pins σ _ _ e s' I2 hq'
  | ok fl =>
    cases fl with
    | ret u =>
      obtain ⟨v, H', I3, rv', ev, d, hd, hne, e3⟩ := I2.after hq'
      subst ev
      subst e3
      exact ⟨rv', ⟨V.ref (hp.objs.size + 1), _, recast I3 hd hn0 hne, rfl, hq0 _ d hn0 hd hne⟩⟩
    | next => exact False.elim hq'
    | brk => exact False.elim hq'
    | cont => exact False.elim hq'
end
end Sim

set_option Elab.async false
set_option linter.all false
set_option maxRecDepth 100000
set_option maxHeartbeats 4000000
namespace Sim
open PySem PySem.Spec PyProof.Rows L2
/-- an exception class of the program, by its name: n parameters, the fields tp, the ways it is called -/
structure MkX (P : Program) (w : World) (K : Frag) (mg : Str → Option Value) (base : Heap) (x : Str) (n : Nat) (tp : List (Str × Fl)) (modes : List (Nat × List Str × Bool)) : Prop where
  T : ExG K (He.ga K x)
  init : ∃ (fI : Addr) (fd : FuncData) (ps : List Str), PySem.W.findIn K (.ref (He.ga K x)) "__init__" = some (some (.ref fI)) ∧ PySem.W.typeIn K (.ref fI) = some (.type "function") ∧ FnOk P w K mg base (CXp P w) 1 fI fd ps (spI (He.ga K x) n tp) ∧
    ∀ md ∈ modes, KBn K fd ps (md.1 + 1) md.2.1 (gB md.2.2) (gB md.2.2)
  glo : mg x = some (.ref (He.ga K x))
  cls : ∀ fs : List (Str × D), fs.map (·.1) = tp.map (·.1) → ExcC K x fs
def tMkX (C : Addr) (tp : List (Str × Fl)) (n0 nk n : Nat) (rv : Bool) (tA tK : TA) : TE := fun σ H Q => tA σ H fun vs H1 => tK σ H1 fun zs H2 => vs.length = n0 ∧ zs.length = nk ∧ (gB rv vs zs).length = n ∧ ∃ fs, tpV tp (gB rv vs zs) = some fs ∧ ∀ a d, H2 a = none → H2 d = none → d ≠ a → Q (.ref a) (upd (upd H2 d (.xd fs)) a (xo a C d))
section
variable {X : Cx} {W : WX} {x : Str} {n n0 k : Nat} {tp : List (Str × Fl)} {modes : List (Nat × List Str × Bool)} {ks : List Str} {rv : Bool} {p pos : Pos} {e : Expr} {es : List Expr} {kws : List Keyword} {tA tK : TA}
theorem no_pass (tk : Takes X W) : Passes (CXp X.prog X.w) X (fun _ _ _ => False) := passes_call (W := W) tk fun _ _ _ _ h => h.elim
theorem pe_mkX (M : MkX X.prog X.w X.K X.mg X.base x n tp modes) (hmd : (n0, [], false) ∈ modes) (h0 : n0 ≤ 1000) (hr : Room (k + 2) X.A) (tk : Takes X W) (ha : PA X (e :: es) tA) (hg : Gl X x) (hdb : (x == ("__debug__" : Str)) = false := by decide)
    (he : starEach (e :: es) X.env = (false, eval e X.env) :: starEach es X.env := by rfl) (hpl : (backTo pos (starEach es X.env)).any (·.1) = false := by rfl) :
    PE X (.Call (.Name x p) (e :: es) [] pos) (tMkX (He.ga X.K x) tp n0 0 n false tA tNil) := by
  obtain ⟨fI, fd, ps, iC, tI, F, B⟩ := M.init
  refine ⟨fun pins s σ H Q I h => ?_⟩
  refine wpAny_Call_Name_kw (ld_glob I hg M.glo ?_ hdb)
  refine PySem.W.callWith_K (h₀ := X.base) I.ok.mod.kin M.T.kC (thn (ha.run pos pins s σ H _ I h) fun us s1 ⟨vs, H1, I1, r, l1, l2, l3, q⟩ => ⟨I1.kIn, ?_⟩) he hpl
  have b := B _ hmd
  simp only at b
  rw [← l1] at b
  exact run_mkX (ks := []) (ws := []) (zs := []) M.T iC tI F (hr.mono (by omega)) b (no_pass tk) I1 r .nil rfl (by rw [l1]; exact h0) l3 q
theorem pe_mkX0 (M : MkX X.prog X.w X.K X.mg X.base x n tp modes) (hmd : (0, [], false) ∈ modes) (hr : Room (k + 2) X.A) (tk : Takes X W) (hg : Gl X x) (hdb : (x == ("__debug__" : Str)) = false := by decide) :
    PE X (.Call (.Name x p) [] [] pos) (tMkX (He.ga X.K x) tp 0 0 n false tNil tNil) := by
  obtain ⟨fI, fd, ps, iC, tI, F, B⟩ := M.init
  refine ⟨fun pins s σ H Q I h => ?_⟩
  refine wpAny_Call_Name_kw (ld_glob I hg M.glo ?_ hdb)
  obtain ⟨l1, l2, l3, q⟩ := h
  exact PySem.W.callWith_K0 I.kIn M.T.kC (run_mkX (ks := []) (us := []) (vs := []) (ws := []) (zs := []) M.T iC tI F (hr.mono (by omega)) (B _ hmd) (no_pass tk) I .nil .nil rfl (by simp) l3 q)
theorem pe_mkXK (M : MkX X.prog X.w X.K X.mg X.base x n tp modes) (hmd : (n0, ks, rv) ∈ modes) (h0 : n0 ≤ 1000) (hr : Room (k + 2) X.A) (tk : Takes X W) (ha : PA X (e :: es) tA) (hkw : PK X kws tK) (hg : Gl X x) (hdb : (x == ("__debug__" : Str)) = false := by decide)
    (hall : (backToKw pos (keywordEach kws X.env)).all (·.1.isSome) = true := by rfl) (hks : (backToKw pos (keywordEach kws X.env)).filterMap (·.1) = ks := by rfl)
    (he : starEach (e :: es) X.env = (false, eval e X.env) :: starEach es X.env := by rfl) (hpl : ((backTo pos (starEach (e :: es) X.env)).any (·.1) || (backToKw pos (keywordEach kws X.env)).any (·.1.isNone)) = false := by rfl) :
    PE X (.Call (.Name x p) (e :: es) kws pos) (tMkX (He.ga X.K x) tp n0 ks.length n rv tA tK) := by
  obtain ⟨fI, fd, ps, iC, tI, F, B⟩ := M.init
  refine ⟨fun pins s σ H Q I h => ?_⟩
  refine wpAny_Call_Name_kw (ld_glob I hg M.glo ?_ hdb)
  refine PySem.W.callWith_KW (h₀ := X.base) I.ok.mod.kin M.T.kC hall (thn (ha.run pos pins s σ H _ I h) fun us s1 ⟨vs, H1, I1, r, q1⟩ => ?_) hpl he
  refine thn (hkw.run pos pins s1 σ H1 _ I1 q1) fun ws s2 ⟨zs, H2, I2, rz, l1, l2, l3, q⟩ => ⟨I2.kIn, ?_⟩
  rw [hks]
  have b := B _ hmd
  simp only at b
  rw [← l1] at b
  exact run_mkX M.T iC tI F (hr.mono (by omega)) b (no_pass tk) I2 r rz l2 (by rw [l1]; exact h0) l3 q
theorem pe_mkXK0 (M : MkX X.prog X.w X.K X.mg X.base x n tp modes) (hmd : (0, ks, rv) ∈ modes) (hr : Room (k + 2) X.A) (tk : Takes X W) (hkw : PK X kws tK) (hg : Gl X x) (hdb : (x == ("__debug__" : Str)) = false := by decide)
    (hall : (backToKw pos (keywordEach kws X.env)).all (·.1.isSome) = true := by rfl) (hks : (backToKw pos (keywordEach kws X.env)).filterMap (·.1) = ks := by rfl)
    (hpl : ((backTo pos (starEach [] X.env)).any (·.1) || (backToKw pos (keywordEach kws X.env)).any (·.1.isNone)) = false := by rfl) :
    PE X (.Call (.Name x p) [] kws pos) (tMkX (He.ga X.K x) tp 0 ks.length n rv tNil tK) := by
  obtain ⟨fI, fd, ps, iC, tI, F, B⟩ := M.init
  refine ⟨fun pins s σ H Q I h => ?_⟩
  refine wpAny_Call_Name_kw (ld_glob I hg M.glo ?_ hdb)
  refine PySem.W.callWith_KW0 (h₀ := X.base) I.ok.mod.kin M.T.kC hall ?_ hpl
  refine thn (hkw.run pos pins s σ H _ I h) fun ws s2 ⟨zs, H2, I2, rz, l1, l2, l3, q⟩ => ⟨I2.kIn, ?_⟩
  rw [hks]
  exact run_mkX (us := []) (vs := []) M.T iC tI F (hr.mono (by omega)) (B _ hmd) (no_pass tk) I2 .nil rz l2 (by simp) l3 q
/-- keywords' values -/
def SK (X : Cx) (W : WX) (kws : List Keyword) (m : Am) : Prop := PK X kws (TAm X.K m W)
theorem sk_nil : SK X W [] aNil := ⟨fun pos pins s σV H Q I q => by
  obtain ⟨w, σ, rfl, ok, sl, p⟩ := q
  exact wpAny_evalAll_nil ⟨[], w.H, I, .nil, PR.ret (R := Reps X.K) ok p .nil⟩⟩
theorem sk_cons {nm : Option Str} {kpos : Pos} {m : Em} {r : Am} (ha : SE X W e m) (hr : SK X W kws r) : SK X W (⟨nm, e, kpos⟩ :: kws) (aCons m r) := by
  have h := pk_cons (nm := nm) (kpos := kpos) ha hr
  refine ⟨fun pos pins s σV H Q I q => h.run pos pins s σV H Q I ?_⟩
  obtain ⟨w, σ, rfl, ok, sl, p⟩ := q
  refine ⟨w, σ, rfl, ok, sl, PR.bind ok p fun d st x mu H1 e1 s1 ok1 r1 p1 => ?_⟩
  refine ⟨⟨mu, st, H1, w.op⟩, σ, rfl, ok1, sl.step s1 ok, PR.bind ok1 p1 fun ds st2 xs mu2 H2 e2 s2 ok2 r2 p2 => ?_⟩
  exact PR.ret (R := Reps X.K) ok2 p2 (.cons (r1.step s2 ok1) r2)
def mkD (x : Str) (tp : List (Str × Fl)) (n0 nk n : Nat) (rv : Bool) (as bs : List D) (st : Sto) : Res D := if as.length = n0 ∧ bs.length = nk ∧ (gB rv as bs).length = n then (match tpD tp (gB rv as bs) with
  | some fs => .ok (.ins x fs) st
  | none => .bad) else .bad
def eMk (x : Str) (tp : List (Str × Fl)) (n0 nk n : Nat) (rv : Bool) (ma mk : Am) : Em := fun σ st => (ma σ st).bind fun as st1 => (mk σ st1).bind fun bs st2 => mkD x tp n0 nk n rv as bs st2
theorem Reps.rev {K : Frag} {w : Wd} {rv : Bool} {vs us : List V} {as bs : List D} (r : Reps K w vs as) (s : Reps K w us bs) : Reps K w (gB rv vs us) (gB rv as bs) := by
  unfold gB
  refine r.append ?_
  cases rv with
  | false => exact s
  | true => exact s.reverse
theorem t_mkX (hc : ∀ fs : List (Str × D), fs.map (·.1) = tp.map (·.1) → ExcC X.K x fs) {ma mk : Am} {nk : Nat} {σV : L2.St} {H : Hp} {Q : VK} (q : TEm X.K (eMk x tp n0 nk n rv ma mk) W σV H Q) : tMkX (He.ga X.K x) tp n0 nk n rv (TAm X.K ma W) (TAm X.K mk W) σV H Q := by
  obtain ⟨w, σ, rfl, ok, sl, p⟩ := q
  refine ⟨w, σ, rfl, ok, sl, PR.bind ok p fun as st vs mu H1 e1 s1 ok1 r1 p1 => ?_⟩
  refine ⟨⟨mu, st, H1, w.op⟩, σ, rfl, ok1, sl.step s1 ok, PR.bind ok1 p1 fun bs st2 zs mu2 H2 e2 s2 ok2 r2 p2 => ?_⟩
  unfold mkD at p2
  by_cases hl : as.length = n0 ∧ bs.length = nk ∧ (gB rv as bs).length = n
  · rw [if_pos hl] at p2
    have rr : Reps X.K ⟨mu2, st2, H2, w.op⟩ (gB rv vs zs) (gB rv as bs) := Reps.rev (r1.step s2 ok1) r2
    cases e3 : tpD tp (gB rv as bs) with
    | none => simp only [e3] at p2; exact p2.elim
    | some fs =>
      simp only [e3] at p2
      obtain ⟨fv, h1, h2, h3⟩ := tpD_rep rr e3
      refine ⟨by rw [r1.length]; exact hl.1, by rw [r2.length]; exact hl.2.1, by rw [rr.length]; exact hl.2.2, fv, h1, fun a d ha hd hn => ?_⟩
      have oA := put_ok (o := .xd fv) ok2 hd
      have sA := put_step (w := ⟨mu2, st2, H2, w.op⟩) (o := .xd fv) hd
      have ha' : (Wd.put ⟨mu2, st2, H2, w.op⟩ d (.xd fv)).H a = none := by
        show upd H2 d (.xd fv) a = none
        rw [upd_ne (Ne.symm hn)]
        exact ha
      have oB := put_ok (o := xo a (He.ga X.K x) d) oA ha'
      have sB := put_step (w := Wd.put ⟨mu2, st2, H2, w.op⟩ d (.xd fv)) (o := xo a (He.ga X.K x) d) ha'
      have hdA : (Wd.put ⟨mu2, st2, H2, w.op⟩ d (.xd fv)).H d ≠ none := by
        show upd H2 d (.xd fv) d ≠ none
        rw [upd_same]; simp
      exact p2 (.ref a) mu2 _ (sA.trans sB ok2) oB (.exo (dx := d) upd_same (by show upd (upd H2 d (.xd fv)) a _ d = _; rw [upd_ne hn, upd_same]) (put_live oA ha') (sB.live oA hdA (put_live ok2 hd)) (oA.notOp ha') (ok2.notOp hd) (h2.step (sA.trans sB ok2) ok2) (hc fs h3))
  · rw [if_neg hl] at p2
    exact p2.elim
theorem se_mkX {ma : Am} (M : MkX X.prog X.w X.K X.mg X.base x n tp modes) (hr : Room (k + 2) X.A) (tk : Takes X W) (ha : SA X W (e :: es) ma) (hmd : (n0, [], false) ∈ modes := by simp) (h0 : n0 ≤ 1000 := by decide) (hg : Gl X x := by rfl) (hdb : (x == ("__debug__" : Str)) = false := by decide)
    (he : starEach (e :: es) X.env = (false, eval e X.env) :: starEach es X.env := by rfl) (hpl : (backTo pos (starEach es X.env)).any (·.1) = false := by rfl) : SE X W (.Call (.Name x p) (e :: es) [] pos) (eMk x tp n0 0 n false ma aNil) :=
  pe_imp (pe_mkX (tA := TAm X.K ma W) M hmd h0 hr tk ha hg hdb he hpl) fun σV H Q q => by
    have z := t_mkX M.cls q
    obtain ⟨w, σ, h1, ok, sl, p⟩ := z
    refine ⟨w, σ, h1, ok, sl, p.mono (fun b H1 q1 => ?_) fun _ _ _ h => h⟩
    obtain ⟨w1, σ1, rfl, ok1, sl1, p1⟩ := q1
    exact PR.ret (R := Reps X.K) ok1 p1 .nil
theorem se_mkX0 (M : MkX X.prog X.w X.K X.mg X.base x n tp modes) (hr : Room (k + 2) X.A) (tk : Takes X W) (hmd : (0, [], false) ∈ modes := by simp) (hg : Gl X x := by rfl) (hdb : (x == ("__debug__" : Str)) = false := by decide) : SE X W (.Call (.Name x p) [] [] pos) (eMk x tp 0 0 n false aNil aNil) :=
  pe_imp (pe_mkX0 M hmd hr tk hg hdb) fun σV H Q q => by
    have z := t_mkX M.cls q
    obtain ⟨w, σ, h1, ok, sl, p⟩ := z
    have z2 := PR.ret (R := Reps X.K) ok p .nil
    obtain ⟨w1, σ1, h3, ok1, sl1, p1⟩ := z2
    have z3 := PR.ret (R := Reps X.K) ok1 p1 .nil
    rw [h3, h1] at z3
    exact z3
theorem se_mkXK {ma mk : Am} (M : MkX X.prog X.w X.K X.mg X.base x n tp modes) (hr : Room (k + 2) X.A) (tk : Takes X W) (ha : SA X W (e :: es) ma) (hk : SK X W kws mk) (hmd : (n0, ks, rv) ∈ modes := by simp) (h0 : n0 ≤ 1000 := by decide) (hg : Gl X x := by rfl) (hdb : (x == ("__debug__" : Str)) = false := by decide)
    (hall : (backToKw pos (keywordEach kws X.env)).all (·.1.isSome) = true := by rfl) (hks : (backToKw pos (keywordEach kws X.env)).filterMap (·.1) = ks := by rfl)
    (he : starEach (e :: es) X.env = (false, eval e X.env) :: starEach es X.env := by rfl) (hpl : ((backTo pos (starEach (e :: es) X.env)).any (·.1) || (backToKw pos (keywordEach kws X.env)).any (·.1.isNone)) = false := by rfl) :
    SE X W (.Call (.Name x p) (e :: es) kws pos) (eMk x tp n0 ks.length n rv ma mk) :=
  pe_imp (pe_mkXK M hmd h0 hr tk ha hk hg hdb hall hks he hpl) fun σV H Q q => t_mkX M.cls q
theorem se_mkXK0 {mk : Am} (M : MkX X.prog X.w X.K X.mg X.base x n tp modes) (hr : Room (k + 2) X.A) (tk : Takes X W) (hk : SK X W kws mk) (hmd : (0, ks, rv) ∈ modes := by simp) (hg : Gl X x := by rfl) (hdb : (x == ("__debug__" : Str)) = false := by decide)
    (hall : (backToKw pos (keywordEach kws X.env)).all (·.1.isSome) = true := by rfl) (hks : (backToKw pos (keywordEach kws X.env)).filterMap (·.1) = ks := by rfl)
    (hpl : ((backTo pos (starEach [] X.env)).any (·.1) || (backToKw pos (keywordEach kws X.env)).any (·.1.isNone)) = false := by rfl) :
    SE X W (.Call (.Name x p) [] kws pos) (eMk x tp 0 ks.length n rv aNil mk) :=
  pe_imp (pe_mkXK0 M hmd hr tk hk hg hdb hall hks hpl) fun σV H Q q => by
    have z := t_mkX M.cls q
    obtain ⟨w, σ, h1, ok, sl, p⟩ := z
    have z2 := PR.ret (R := Reps X.K) ok p .nil
    rw [h1] at z2
    exact z2
/-! ### fields -/
def attD (f : Str) (d : D) (st : Sto) : Res D := match d with
  | .ins C fs => (match fs.lookup f with
    | some v => .ok v st
    | none => .bad)
  | .ref n => (match st[n]? with
    | some (some (.ins C fs)) => (match fs.lookup f with
      | some v => .ok v st
      | none => .bad)
    | _ => .bad)
  | _ => .bad
theorem se_att {f : Str} {m : Em} (he : SE X W e m) (hb : attributeBase e f X.env (eval e X.env) = eval e X.env := by rfl) : SE X W (.Attribute e f pos) (eUn (attD f) m) := by
  refine ⟨fun pins s σV H Q I q => ?_⟩
  refine attr_of hb (thn (he.run pins s σV H (fun x H1 => ∃ w d, w.H = H1 ∧ Ok X.K w ∧ Rep X.K w x d ∧ PR X.K (Rep X.K) w (attD f d w.st) Q (xk W σV)) I ?_) fun u s1 ⟨x, H1, I1, rx, w, d, hH, ok, r, p⟩ => ?_)
  · obtain ⟨w, σ, rfl, ok, sl, p⟩ := q
    exact ⟨w, σ, rfl, ok, sl, PR.bind ok p fun d st x mu H1 e1 s1 ok1 r1 p1 => ⟨⟨mu, st, H1, w.op⟩, d, rfl, ok1, r1, p1⟩⟩
  · subst hH
    have pl : ∀ {a dx : Addr} {C : Str} {fv : List (Str × V)} {fs : List (Str × D)}, x = .ref a → w.H a = some (.ins (He.ga X.K C) dx fv) → RepF X.K w fv fs → InsC X.K C fs → PR X.K (Rep X.K) w (match fs.lookup f with | some v => .ok v w.st | none => .bad) Q (xk W σV) →
        wpAny (model X.prog X.w) X.A (getAttr u f true) (EP X pins σV Q) X.xe s1 := fun {a dx C fv fs} ex h hs hc p => by
      subst ex
      obtain rfl : u = Value.ref a := rx
      cases e : fs.lookup f with
      | none => rw [e] at p; exact p.elim
      | some d2 =>
        rw [e] at p
        obtain ⟨v, hv, rv⟩ := hs.lookup e
        exact getattr_ok I1 h hc.cls (hc.no f (by rw [e]; simp)) hv fun u' s2 I2 ru => ⟨v, w.H, I2, ru, PR.ret (R := Rep X.K) ok p rv⟩
    cases r with
    | ins h hl ho hs hc => exact pl rfl h hs hc p
    | @exo a dx C fv fs h h2 hl hl2 ho ho2 hs hc =>
      obtain rfl : u = Value.ref a := rx
      have p : PR X.K (Rep X.K) w (match fs.lookup f with | some v => .ok v w.st | none => .bad) Q (xk W σV) := p
      cases e : fs.lookup f with
      | none => rw [e] at p; exact p.elim
      | some d2 =>
        rw [e] at p
        obtain ⟨v, hv, rv⟩ := hs.lookup e
        have hx : ObjOk X.prog X.w w.H s1.heap dx (.xd fv) := I1.hok dx _ h2
        obtain ⟨mA, hns, hrl⟩ := hx
        obtain ⟨od, hod, hlk⟩ := lookIn_ns hns
        have z : ObjOk X.prog X.w w.H s1.heap a (xo a (He.ga X.K C) dx) := I1.hok a _ h
        obtain ⟨⟨o, vs, e1, e2, e3, e4⟩, _⟩ := z
        obtain ⟨u, hu, ru⟩ := RelO.some_of (v := v) (o := mA f) (by rw [← hv]; exact hrl f)
        have J : PySem.W.InstAt s1.heap a o (He.ga X.K C) (some od) := ⟨e1, e2, by unfold PySem.W.notCls; rw [e4] <;> rfl, by rw [e3]; exact hod⟩
        exact HandSPX.exc_get I1.kIn J hc.ga hc.gg hc.exC (PySem.W.findObj_own hc.hdC (hc.no f (by rw [e]; simp)) rfl (by rw [hlk, hu])) (handed_of ru) ⟨v, w.H, I1.tok _, ru, PR.ret (R := Rep X.K) ok p rv⟩
    | @ref a n h =>
      unfold attD at p
      cases e : w.st[n]? with
      | none => simp only [e] at p; exact p.elim
      | some o =>
        cases o with
        | none => simp only [e] at p; exact p.elim
        | some o =>
          have ro := ok.obj n a o h e
          cases o with
          | lst ds => simp only [e] at p; exact p.elim
          | ins C fs =>
            simp only [e] at p
            obtain ⟨dx, fv, h1, h2, hc⟩ := ro
            exact pl rfl h1 h2 hc p
    | non => exact p.elim
    | bl b => exact p.elim
    | int b => exact p.elim
    | str b => exact p.elim
    | ty b => exact p.elim
    | tup h h2 h3 => exact p.elim
    | ktup h h2 => exact p.elim
    | lst h h2 h3 h4 => exact p.elim
    | scr h h2 h3 h4 => exact p.elim
    | kscr h h2 h3 => exact p.elim
end
end Sim

set_option Elab.async false
set_option linter.all false
set_option maxRecDepth 100000
set_option maxHeartbeats 4000000
/-! facts by names, of our own -/
namespace Sim
open PySem PySem.Spec PyProof.Rows L2
theorem Bs.ok (b : Bs) : ∃ (B initId : String), ExcBaseFacts B b.new initId b.bm ∧ StoreFacts B b.bm "object.__setattr__" "object" := by
  cases b with
  | ve => exact ⟨_, _, PySem.F.excBase_ValueError, PySem.F.store_ValueError⟩
  | ae => exact ⟨_, _, PySem.F.excBase_ArithmeticError, PySem.F.store_ArithmeticError⟩
  | le => exact ⟨_, _, PySem.F.excBase_LookupError, PySem.F.store_LookupError⟩
  | ie => exact ⟨_, _, PySem.F.excBase_IndexError, PySem.F.store_IndexError⟩
structure ExF (K : Frag) (x : Str) (ns : List Str) : Prop where
  T : ExG K (He.ga K x)
  iC : PySem.W.findIn K (.ref (He.ga K x)) "__init__" = some (some (.ref (He.ma K (He.ga K x) "__init__")))
  tI : PySem.W.typeIn K (.ref (He.ma K (He.ga K x) "__init__")) = some (.type "function")
  no : ∀ f ∈ ns, PySem.W.findIn K (.ref (He.ga K x)) f = some none
  cls : ∀ fs : List (Str × D), (∀ f ∈ fs.map (·.1), f ∈ ns) → ExcC K x fs
theorem mem_of_lookup' {f : Str} {v : D} : ∀ {fs : List (Str × D)}, fs.lookup f = some v → f ∈ fs.map (·.1)
  | [], h => by cases h
  | (g, y) :: r, h => by
    rw [List.lookup_cons] at h
    cases q : f == g with
    | true => rw [eq_of_beq q]; exact List.mem_cons_self
    | false => rw [q] at h; exact List.mem_cons_of_mem _ (mem_of_lookup' h)
theorem gtIn {K : Frag} : PySem.W.specialIn K (.builtin "object.__class__") "__get__" = some (some (.builtin "getset_descriptor.__get__")) := by kernel_rfl
theorem tkIn {K : Frag} : PySem.W.takesIn K (.builtin "object.__class__") = some true := by kernel_rfl
theorem exB_ok {K : Frag} {x : Str} {b : Bs} {ns : List Str} (h : exB K (He.ga K x) b ns = true) : ExF K x ns := by
  unfold exB at h
  simp only [Bool.and_eq_true, decide_eq_true_eq, List.all_eq_true] at h
  obtain ⟨h1, h2, h3, h4, h5, h6, h7, h8, h9, h10, h11, h12, h13, h14⟩ := h
  obtain ⟨B, i, F, S⟩ := b.ok
  refine ⟨⟨⟨B, _, i, _, F, S, h1, h2⟩, h3, h6, h4⟩, h12, h13, h14, fun fs hf => ⟨h5, h7, h8, h9, h3, h10, gtIn, tkIn, h11, fun f hl => ?_⟩⟩
  cases e : fs.lookup f with
  | none => exact absurd e hl
  | some v => exact h14 f (hf f (mem_of_lookup' e))
theorem incr_all {a : Nat} : ∀ {l : List Nat}, incr (a :: l) = true → ∀ b ∈ l, a < b
  | [], _, b, h => by cases h
  | c :: r, e, b, h => by
    have e : (decide (a < c) && incr (c :: r)) = true := e
    obtain ⟨h1, h2⟩ := Bool.and_eq_true_iff.mp e
    have h1 := of_decide_eq_true h1
    rcases List.mem_cons.mp h with h | h
    · rw [h]; exact h1
    · exact Nat.lt_trans h1 (incr_all h2 b h)
theorem incr_tail {a : Nat} {l : List Nat} (h : incr (a :: l) = true) : incr l = true := by
  cases l with
  | nil => rfl
  | cons b r => exact (Bool.and_eq_true_iff.mp (show (decide (a < b) && incr (b :: r)) = true from h)).2
theorem incr_inj {f : Str → Nat} : ∀ {l : List Str}, incr (l.map f) = true → ∀ a ∈ l, ∀ b ∈ l, f a = f b → a = b
  | [], _, a, ha, _, _, _ => by cases ha
  | c :: r, e, a, ha, b, hb, h => by
    have e : incr (f c :: r.map f) = true := e
    rcases List.mem_cons.mp ha with ha | ha <;> rcases List.mem_cons.mp hb with hb | hb
    · rw [ha, hb]
    · have := incr_all e (f b) (List.mem_map_of_mem hb)
      rw [ha] at h; omega
    · have := incr_all e (f a) (List.mem_map_of_mem ha)
      rw [hb] at h; omega
    · exact incr_inj (incr_tail e) a ha b hb h
def isO (ancO : Str → List Str) (leafs : List Str) (T : Str) : Tg → Option Bool
  | .c C => if C ∈ leafs then some (decide (T ∈ ancO C)) else none
  | _ => none
def isY (ancT : Str → List String) (leafs : List Str) (T : String) : Tg → Option Bool
  | .c C => if C ∈ leafs then some (decide (T ∈ ancT C)) else none
  | _ => none
section
variable {K : Frag} {ancO : Str → List Str} {ancT : Str → List String} {leafs owns : List Str}
theorem isTab_mro (h : isTabB K ancO ancT leafs owns = true) {C : Str} (hC : C ∈ leafs) : ∃ cd, PySem.W.clsIn K (He.ga K C) = some cd ∧ cd.mro = (ancO C).map (fun A => Value.ref (He.ga K A)) ++ (ancT C).map Value.type := by
  have z := of_decide_eq_true (List.all_eq_true.mp (Bool.and_eq_true_iff.mp h).1 C hC)
  cases e : PySem.W.clsIn K (He.ga K C) with
  | none => rw [e] at z; cases z
  | some cd => rw [e] at z; exact ⟨cd, rfl, Option.some.inj z⟩
theorem mro_sub {C : Str} {cd : ClassData} {v : Value} (h : PySem.W.clsIn K (He.ga K C) = some cd) (hn : cd.mro ≠ []) : PySem.W.subIn K (.ref (He.ga K C)) v = some (cd.mro.contains v) := by
  show PySem.W.mroIn K _ _ = _
  unfold PySem.W.mroIn
  rw [h, Option.bind_some, if_neg]
  intro z
  exact hn (List.isEmpty_iff.mp z)
theorem isO_ok (h : isTabB K ancO ancT leafs owns = true) (hs : ∀ C ∈ leafs, C ∈ ancO C ∧ ∀ A ∈ ancO C, A ∈ owns) {T : Str} (hT : T ∈ owns) (t : Tg) (b : Bool) (e : isO ancO leafs T t = some b) : PySem.W.kitOne K (t.val K) (.ref (He.ga K T)) = some b := by
  cases t with
  | b n => cases e
  | c C =>
    have e : (if C ∈ leafs then some (decide (T ∈ ancO C)) else none) = some b := e
    by_cases hC : C ∈ leafs
    · rw [if_pos hC] at e
      obtain ⟨cd, h1, h2⟩ := isTab_mro h hC
      obtain ⟨h3, h4⟩ := Bool.and_eq_true_iff.mp (Bool.and_eq_true_iff.mp h).2
      have inj := incr_inj h4
      have hT2 := List.all_eq_true.mp h3 T hT
      have hne : cd.mro ≠ [] := by
        rw [h2]
        intro z
        have z1 := (List.append_eq_nil_iff.mp z).1
        have z2 := (hs C hC).1
        rw [List.map_eq_nil_iff.mp z1] at z2
        cases z2
      have hc : cd.mro.contains (.ref (He.ga K T)) = decide (T ∈ ancO C) := by
        rw [h2]
        by_cases hm : T ∈ ancO C
        · rw [decide_eq_true hm]
          simp only [List.contains_eq_mem, decide_eq_true_eq]
          exact List.mem_append_left _ (List.mem_map_of_mem (f := fun A => Value.ref (He.ga K A)) hm)
        · rw [decide_eq_false hm]
          simp only [List.contains_eq_mem, decide_eq_false_iff_not]
          intro z
          rcases List.mem_append.mp z with z | z
          · obtain ⟨A, hA, hv⟩ := List.mem_map.mp z
            have q : He.ga K A = He.ga K T := Value.ref.inj hv
            rw [inj A ((hs C hC).2 A hA) T hT q] at hA
            exact hm hA
          · obtain ⟨A, hA, hv⟩ := List.mem_map.mp z
            cases hv
      show PySem.W.kitOne K (.ref (He.ga K C)) (.ref (He.ga K T)) = some b
      rw [← e]
      unfold PySem.W.kitOne
      by_cases q : (Value.ref (He.ga K C) == Value.ref (He.ga K T)) = true
      · rw [if_pos q]
        have q2 : He.ga K C = He.ga K T := Value.ref.inj (beq_iff_eq.mp q)
        have q3 := inj C ((hs C hC).2 C (hs C hC).1) T hT q2
        rw [← q3, decide_eq_true (hs C hC).1]
      · rw [if_neg q]
        unfold PySem.W.kitCls
        have q4 : ((PySem.W.clsIn K (He.ga K T)).isSome && PySem.W.typeIn K (.ref (He.ga K T)) == some (.type "type")) = true := by
          obtain ⟨a1, a2⟩ := Bool.and_eq_true_iff.mp hT2
          rw [a1, of_decide_eq_true a2]
          simp
        simp only [q4, if_true]
        rw [mro_sub h1 hne, hc]
    · rw [if_neg hC] at e; cases e
theorem isY_ok (h : isTabB K ancO ancT leafs owns = true) (hs : ∀ C ∈ leafs, C ∈ ancO C ∧ ∀ A ∈ ancO C, A ∈ owns) {T : String} (hT : PySem.W.kitMeta T = true) (t : Tg) (b : Bool) (e : isY ancT leafs T t = some b) : PySem.W.kitOne K (t.val K) (.type T) = some b := by
  cases t with
  | b n => cases e
  | c C =>
    have e : (if C ∈ leafs then some (decide (T ∈ ancT C)) else none) = some b := e
    by_cases hC : C ∈ leafs
    · rw [if_pos hC] at e
      obtain ⟨cd, h1, h2⟩ := isTab_mro h hC
      have hne : cd.mro ≠ [] := by
        rw [h2]
        intro z
        have z1 := (List.append_eq_nil_iff.mp z).1
        have z2 := (hs C hC).1
        rw [List.map_eq_nil_iff.mp z1] at z2
        cases z2
      have hc : cd.mro.contains (.type T) = decide (T ∈ ancT C) := by
        rw [h2]
        by_cases hm : T ∈ ancT C
        · rw [decide_eq_true hm]
          simp only [List.contains_eq_mem, decide_eq_true_eq]
          exact List.mem_append_right _ (List.mem_map_of_mem hm)
        · rw [decide_eq_false hm]
          simp only [List.contains_eq_mem, decide_eq_false_iff_not]
          intro z
          rcases List.mem_append.mp z with z | z
          · obtain ⟨A, hA, hv⟩ := List.mem_map.mp z
            cases hv
          · obtain ⟨A, hA, hv⟩ := List.mem_map.mp z
            rw [Value.type.inj hv] at hA
            exact hm hA
      show PySem.W.kitOne K (.ref (He.ga K C)) (.type T) = some b
      rw [← e]
      unfold PySem.W.kitOne
      have q : ¬ (Value.ref (He.ga K C) == Value.type T) = true := fun z => by
        have := beq_iff_eq.mp z
        cases this
      rw [if_neg q]
      unfold PySem.W.kitCls
      simp only [hT, if_true]
      rw [mro_sub h1 hne, hc]
    · rw [if_neg hC] at e; cases e
end
theorem SaysS.d {fa : List He.Fa} {fn : List He.DefD} {xs : List (Frag → Bool)} {K : Frag} (c : SaysS fa fn xs K) : He.SaysD fa fn K := congrArg (fun z : AlS => z.1) c
theorem SaysS.x {fa : List He.Fa} {fn : List He.DefD} {xs : List (Frag → Bool)} {K : Frag} (c : SaysS fa fn xs K) (i : Nat) {f : Frag → Bool} (h : xs[i]? = some f) : f K = true :=
  List.all_eq_true.mp (congrArg (fun z : AlS => z.2) c) f (List.mem_of_getElem? h)
end Sim

set_option Elab.async false
set_option linter.all false
set_option maxRecDepth 100000
set_option maxHeartbeats 4000000

namespace Sim
open PySem PySem.Spec PyProof.Rows L2
theorem pss_bad {X : Cx} {body : List Stmt} : PSs X body (fun _ _ _ => False) := ⟨fun _ _ _ _ _ _ h => h.elim⟩
end Sim
namespace K00
open PySem PySem.Spec PyProof.Rows L2 Sim
structure Ev (K : Frag) (mg : Str → Option Value) : Prop where
  s : SaysS fa fn xs K
  g : ∀ x ∈ gnames, mg x = some (.ref (He.ga K x))
  f : ∀ x ∈ fnames, mg x = none
section
variable {K : Frag} {mg : Str → Option Value}
theorem Ev.says (ev : Ev K mg) : He.SaysD fa fn K := ev.s.d
theorem Ev.glo (ev : Ev K mg) (x : Str) (h : x ∈ gnames := by decide +kernel) : mg x = some (.ref (He.ga K x)) := ev.g x h
theorem Ev.free (ev : Ev K mg) (x : Str) (h : x ∈ fnames := by decide +kernel) : mg x = none := ev.f x h
theorem Ev.nocs (ev : Ev K mg) {T : String} : ∀ C ∈ ([] : List Str), PySem.W.kitOne K (.ref (He.ga K C)) (.type T) = some false := fun _ h => nomatch h
theorem Ev.tab (ev : Ev K mg) : isTabB K ancO ancT leafs owns = true := ev.s.x 0 rfl
theorem Ev.exx (ev : Ev K mg) {e : Str × Bs × List Str} (h : e ∈ exL) : exB K (He.ga K e.1) e.2.1 e.2.2 = true := List.all_eq_true.mp (ev.s.x 1 (f := fun K => exL.all fun e => exB K (He.ga K e.1) e.2.1 e.2.2) rfl) e h
theorem ev_of {h : Heap} (X : K.In h) (G : h.Ns mainGlobals mg) (c : SaysS fa fn xs K) : Ev K mg := by
  have a := (He.ba (show ((fa.all fun f => f.ok K) && fn.all fun d => d.ok K) = true from congrArg (fun z : He.AlD => z.1) c.d)).1
  refine ⟨c, fun x hx => He.glo_ok X G (List.all_eq_true.mp a _ ?_), fun x hx => He.free_ok X G (List.all_eq_true.mp a _ ?_)⟩
  · exact List.mem_append_left _ (List.mem_map_of_mem hx)
  · exact List.mem_append_right _ (List.mem_map_of_mem hx)
end
end K00

set_option Elab.async false
set_option linter.all false
set_option maxRecDepth 100000
set_option maxHeartbeats 4000000

namespace K00
open PySem PySem.Spec PyProof.Rows L2 Sim
variable {P : Program} {w : World} {K : Frag} {mg : Str → Option Value} {base : Heap}
abbrev si_InvalidNumber : Stmt := inCls (top 4) 0
abbrev tp_InvalidNumber : List (Str × Fl) := [("code", .s "InvalidNumber"), ("value", .a 0)]
abbrev md_InvalidNumber : List (Nat × List Str × Bool) := [(1, [], false), (0, ["value"], false)]
theorem sci_InvalidNumber : FnScope ["self", "value"] ["self", "value"] (defScope si_InvalidNumber) := ⟨rfl, rfl, rfl, by decide +kernel, rfl, by decide +kernel, by decide +kernel⟩
theorem mk_InvalidNumber (ev : Ev K mg) : MkX P w K mg base "InvalidNumber" 1 tp_InvalidNumber md_InvalidNumber := by
  have f : ExF K "InvalidNumber" ["code", "value"] := exB_ok (b := .ve) (ev.exx (by decide +kernel : (("InvalidNumber" : Str), Bs.ve, (["code", "value"] : List Str)) ∈ exL))
  obtain ⟨fd, F⟩ := ev.says.def_ DI_InvalidNumber rfl
  refine ⟨f.T, ⟨_, fd, ["self", "value"], f.iC, f.tI, ok_init2 f.T rfl rfl (f.no _ (by simp)) (f.no _ (by simp)) F sci_InvalidNumber, ?_⟩, ev.glo "InvalidNumber", fun fs h => f.cls fs (by rw [h]; decide +kernel)⟩
  intro md h
  simp only [md_InvalidNumber, List.mem_cons, List.not_mem_nil, or_false] at h
  rcases h with rfl | rfl
  · exact kbn F 2 [] false (fun _ _ _ _ _ _ us ws h1 h2 => match us, ws, h1, h2 with | [_, _], [], _, _ => rfl)
  · exact kbn F 1 ["value"] false (fun _ _ _ _ _ _ us ws h1 h2 => match us, ws, h1, h2 with | [_], [_], _, _ => rfl)

abbrev si_InvalidFraction : Stmt := inCls (top 5) 0
abbrev tp_InvalidFraction : List (Str × Fl) := [("code", .s "InvalidFraction"), ("at", .a 0)]
abbrev md_InvalidFraction : List (Nat × List Str × Bool) := [(1, [], false), (0, ["at"], false)]
theorem sci_InvalidFraction : FnScope ["self", "at"] ["self", "at"] (defScope si_InvalidFraction) := ⟨rfl, rfl, rfl, by decide +kernel, rfl, by decide +kernel, by decide +kernel⟩
theorem mk_InvalidFraction (ev : Ev K mg) : MkX P w K mg base "InvalidFraction" 1 tp_InvalidFraction md_InvalidFraction := by
  have f : ExF K "InvalidFraction" ["code", "at"] := exB_ok (b := .ve) (ev.exx (by decide +kernel : (("InvalidFraction" : Str), Bs.ve, (["code", "at"] : List Str)) ∈ exL))
  obtain ⟨fd, F⟩ := ev.says.def_ DI_InvalidFraction rfl
  refine ⟨f.T, ⟨_, fd, ["self", "at"], f.iC, f.tI, ok_init2 f.T rfl rfl (f.no _ (by simp)) (f.no _ (by simp)) F sci_InvalidFraction, ?_⟩, ev.glo "InvalidFraction", fun fs h => f.cls fs (by rw [h]; decide +kernel)⟩
  intro md h
  simp only [md_InvalidFraction, List.mem_cons, List.not_mem_nil, or_false] at h
  rcases h with rfl | rfl
  · exact kbn F 2 [] false (fun _ _ _ _ _ _ us ws h1 h2 => match us, ws, h1, h2 with | [_, _], [], _, _ => rfl)
  · exact kbn F 1 ["at"] false (fun _ _ _ _ _ _ us ws h1 h2 => match us, ws, h1, h2 with | [_], [_], _, _ => rfl)

abbrev si_InvalidOrder : Stmt := inCls (top 6) 0
abbrev tp_InvalidOrder : List (Str × Fl) := [("code", .s "InvalidOrder"), ("value", .a 0)]
abbrev md_InvalidOrder : List (Nat × List Str × Bool) := [(1, [], false), (0, ["value"], false)]
theorem sci_InvalidOrder : FnScope ["self", "value"] ["self", "value"] (defScope si_InvalidOrder) := ⟨rfl, rfl, rfl, by decide +kernel, rfl, by decide +kernel, by decide +kernel⟩
theorem mk_InvalidOrder (ev : Ev K mg) : MkX P w K mg base "InvalidOrder" 1 tp_InvalidOrder md_InvalidOrder := by
  have f : ExF K "InvalidOrder" ["code", "value"] := exB_ok (b := .ve) (ev.exx (by decide +kernel : (("InvalidOrder" : Str), Bs.ve, (["code", "value"] : List Str)) ∈ exL))
  obtain ⟨fd, F⟩ := ev.says.def_ DI_InvalidOrder rfl
  refine ⟨f.T, ⟨_, fd, ["self", "value"], f.iC, f.tI, ok_init2 f.T rfl rfl (f.no _ (by simp)) (f.no _ (by simp)) F sci_InvalidOrder, ?_⟩, ev.glo "InvalidOrder", fun fs h => f.cls fs (by rw [h]; decide +kernel)⟩
  intro md h
  simp only [md_InvalidOrder, List.mem_cons, List.not_mem_nil, or_false] at h
  rcases h with rfl | rfl
  · exact kbn F 2 [] false (fun _ _ _ _ _ _ us ws h1 h2 => match us, ws, h1, h2 with | [_, _], [], _, _ => rfl)
  · exact kbn F 1 ["value"] false (fun _ _ _ _ _ _ us ws h1 h2 => match us, ws, h1, h2 with | [_], [_], _, _ => rfl)

abbrev si_InvalidPlace : Stmt := inCls (top 9) 0
abbrev tp_InvalidPlace : List (Str × Fl) := [("code", .s "InvalidPlace"), ("value", .a 0)]
abbrev md_InvalidPlace : List (Nat × List Str × Bool) := [(1, [], false), (0, ["value"], false)]
theorem sci_InvalidPlace : FnScope ["self", "value"] ["self", "value"] (defScope si_InvalidPlace) := ⟨rfl, rfl, rfl, by decide +kernel, rfl, by decide +kernel, by decide +kernel⟩
theorem mk_InvalidPlace (ev : Ev K mg) : MkX P w K mg base "InvalidPlace" 1 tp_InvalidPlace md_InvalidPlace := by
  have f : ExF K "InvalidPlace" ["code", "value"] := exB_ok (b := .ve) (ev.exx (by decide +kernel : (("InvalidPlace" : Str), Bs.ve, (["code", "value"] : List Str)) ∈ exL))
  obtain ⟨fd, F⟩ := ev.says.def_ DI_InvalidPlace rfl
  refine ⟨f.T, ⟨_, fd, ["self", "value"], f.iC, f.tI, ok_init2 f.T rfl rfl (f.no _ (by simp)) (f.no _ (by simp)) F sci_InvalidPlace, ?_⟩, ev.glo "InvalidPlace", fun fs h => f.cls fs (by rw [h]; decide +kernel)⟩
  intro md h
  simp only [md_InvalidPlace, List.mem_cons, List.not_mem_nil, or_false] at h
  rcases h with rfl | rfl
  · exact kbn F 2 [] false (fun _ _ _ _ _ _ us ws h1 h2 => match us, ws, h1, h2 with | [_, _], [], _, _ => rfl)
  · exact kbn F 1 ["value"] false (fun _ _ _ _ _ _ us ws h1 h2 => match us, ws, h1, h2 with | [_], [_], _, _ => rfl)

abbrev si_InvalidPower : Stmt := inCls (top 10) 0
abbrev tp_InvalidPower : List (Str × Fl) := [("code", .s "InvalidPower"), ("value", .a 0)]
abbrev md_InvalidPower : List (Nat × List Str × Bool) := [(1, [], false), (0, ["value"], false)]
theorem sci_InvalidPower : FnScope ["self", "value"] ["self", "value"] (defScope si_InvalidPower) := ⟨rfl, rfl, rfl, by decide +kernel, rfl, by decide +kernel, by decide +kernel⟩
theorem mk_InvalidPower (ev : Ev K mg) : MkX P w K mg base "InvalidPower" 1 tp_InvalidPower md_InvalidPower := by
  have f : ExF K "InvalidPower" ["code", "value"] := exB_ok (b := .ve) (ev.exx (by decide +kernel : (("InvalidPower" : Str), Bs.ve, (["code", "value"] : List Str)) ∈ exL))
  obtain ⟨fd, F⟩ := ev.says.def_ DI_InvalidPower rfl
  refine ⟨f.T, ⟨_, fd, ["self", "value"], f.iC, f.tI, ok_init2 f.T rfl rfl (f.no _ (by simp)) (f.no _ (by simp)) F sci_InvalidPower, ?_⟩, ev.glo "InvalidPower", fun fs h => f.cls fs (by rw [h]; decide +kernel)⟩
  intro md h
  simp only [md_InvalidPower, List.mem_cons, List.not_mem_nil, or_false] at h
  rcases h with rfl | rfl
  · exact kbn F 2 [] false (fun _ _ _ _ _ _ us ws h1 h2 => match us, ws, h1, h2 with | [_, _], [], _, _ => rfl)
  · exact kbn F 1 ["value"] false (fun _ _ _ _ _ _ us ws h1 h2 => match us, ws, h1, h2 with | [_], [_], _, _ => rfl)

abbrev si_InvalidTimes : Stmt := inCls (top 11) 0
abbrev tp_InvalidTimes : List (Str × Fl) := [("code", .s "InvalidTimes"), ("value", .a 0)]
abbrev md_InvalidTimes : List (Nat × List Str × Bool) := [(1, [], false), (0, ["value"], false)]
theorem sci_InvalidTimes : FnScope ["self", "value"] ["self", "value"] (defScope si_InvalidTimes) := ⟨rfl, rfl, rfl, by decide +kernel, rfl, by decide +kernel, by decide +kernel⟩
theorem mk_InvalidTimes (ev : Ev K mg) : MkX P w K mg base "InvalidTimes" 1 tp_InvalidTimes md_InvalidTimes := by
  have f : ExF K "InvalidTimes" ["code", "value"] := exB_ok (b := .ve) (ev.exx (by decide +kernel : (("InvalidTimes" : Str), Bs.ve, (["code", "value"] : List Str)) ∈ exL))
  obtain ⟨fd, F⟩ := ev.says.def_ DI_InvalidTimes rfl
  refine ⟨f.T, ⟨_, fd, ["self", "value"], f.iC, f.tI, ok_init2 f.T rfl rfl (f.no _ (by simp)) (f.no _ (by simp)) F sci_InvalidTimes, ?_⟩, ev.glo "InvalidTimes", fun fs h => f.cls fs (by rw [h]; decide +kernel)⟩
  intro md h
  simp only [md_InvalidTimes, List.mem_cons, List.not_mem_nil, or_false] at h
  rcases h with rfl | rfl
  · exact kbn F 2 [] false (fun _ _ _ _ _ _ us ws h1 h2 => match us, ws, h1, h2 with | [_, _], [], _, _ => rfl)
  · exact kbn F 1 ["value"] false (fun _ _ _ _ _ _ us ws h1 h2 => match us, ws, h1, h2 with | [_], [_], _, _ => rfl)

abbrev si_InvalidText : Stmt := inCls (top 12) 0
abbrev tp_InvalidText : List (Str × Fl) := [("code", .s "InvalidText"), ("at", .a 0)]
abbrev md_InvalidText : List (Nat × List Str × Bool) := [(1, [], false), (0, ["at"], false)]
theorem sci_InvalidText : FnScope ["self", "at"] ["self", "at"] (defScope si_InvalidText) := ⟨rfl, rfl, rfl, by decide +kernel, rfl, by decide +kernel, by decide +kernel⟩
theorem mk_InvalidText (ev : Ev K mg) : MkX P w K mg base "InvalidText" 1 tp_InvalidText md_InvalidText := by
  have f : ExF K "InvalidText" ["code", "at"] := exB_ok (b := .ve) (ev.exx (by decide +kernel : (("InvalidText" : Str), Bs.ve, (["code", "at"] : List Str)) ∈ exL))
  obtain ⟨fd, F⟩ := ev.says.def_ DI_InvalidText rfl
  refine ⟨f.T, ⟨_, fd, ["self", "at"], f.iC, f.tI, ok_init2 f.T rfl rfl (f.no _ (by simp)) (f.no _ (by simp)) F sci_InvalidText, ?_⟩, ev.glo "InvalidText", fun fs h => f.cls fs (by rw [h]; decide +kernel)⟩
  intro md h
  simp only [md_InvalidText, List.mem_cons, List.not_mem_nil, or_false] at h
  rcases h with rfl | rfl
  · exact kbn F 2 [] false (fun _ _ _ _ _ _ us ws h1 h2 => match us, ws, h1, h2 with | [_, _], [], _, _ => rfl)
  · exact kbn F 1 ["at"] false (fun _ _ _ _ _ _ us ws h1 h2 => match us, ws, h1, h2 with | [_], [_], _, _ => rfl)

abbrev si_InvalidTable : Stmt := inCls (top 13) 0
abbrev tp_InvalidTable : List (Str × Fl) := [("code", .s "InvalidTable"), ("at", .a 0)]
abbrev md_InvalidTable : List (Nat × List Str × Bool) := [(1, [], false), (0, ["at"], false)]
theorem sci_InvalidTable : FnScope ["self", "at"] ["self", "at"] (defScope si_InvalidTable) := ⟨rfl, rfl, rfl, by decide +kernel, rfl, by decide +kernel, by decide +kernel⟩
theorem mk_InvalidTable (ev : Ev K mg) : MkX P w K mg base "InvalidTable" 1 tp_InvalidTable md_InvalidTable := by
  have f : ExF K "InvalidTable" ["code", "at"] := exB_ok (b := .ve) (ev.exx (by decide +kernel : (("InvalidTable" : Str), Bs.ve, (["code", "at"] : List Str)) ∈ exL))
  obtain ⟨fd, F⟩ := ev.says.def_ DI_InvalidTable rfl
  refine ⟨f.T, ⟨_, fd, ["self", "at"], f.iC, f.tI, ok_init2 f.T rfl rfl (f.no _ (by simp)) (f.no _ (by simp)) F sci_InvalidTable, ?_⟩, ev.glo "InvalidTable", fun fs h => f.cls fs (by rw [h]; decide +kernel)⟩
  intro md h
  simp only [md_InvalidTable, List.mem_cons, List.not_mem_nil, or_false] at h
  rcases h with rfl | rfl
  · exact kbn F 2 [] false (fun _ _ _ _ _ _ us ws h1 h2 => match us, ws, h1, h2 with | [_, _], [], _, _ => rfl)
  · exact kbn F 1 ["at"] false (fun _ _ _ _ _ _ us ws h1 h2 => match us, ws, h1, h2 with | [_], [_], _, _ => rfl)

abbrev si_NotSlow : Stmt := inCls (top 15) 0
abbrev tp_NotSlow : List (Str × Fl) := [("code", .s "NotSlow"), ("first", .a 0)]
abbrev md_NotSlow : List (Nat × List Str × Bool) := [(1, [], false), (0, ["first"], false)]
theorem sci_NotSlow : FnScope ["self", "first"] ["self", "first"] (defScope si_NotSlow) := ⟨rfl, rfl, rfl, by decide +kernel, rfl, by decide +kernel, by decide +kernel⟩
theorem mk_NotSlow (ev : Ev K mg) : MkX P w K mg base "NotSlow" 1 tp_NotSlow md_NotSlow := by
  have f : ExF K "NotSlow" ["code", "first"] := exB_ok (b := .ve) (ev.exx (by decide +kernel : (("NotSlow" : Str), Bs.ve, (["code", "first"] : List Str)) ∈ exL))
  obtain ⟨fd, F⟩ := ev.says.def_ DI_NotSlow rfl
  refine ⟨f.T, ⟨_, fd, ["self", "first"], f.iC, f.tI, ok_init2 f.T rfl rfl (f.no _ (by simp)) (f.no _ (by simp)) F sci_NotSlow, ?_⟩, ev.glo "NotSlow", fun fs h => f.cls fs (by rw [h]; decide +kernel)⟩
  intro md h
  simp only [md_NotSlow, List.mem_cons, List.not_mem_nil, or_false] at h
  rcases h with rfl | rfl
  · exact kbn F 2 [] false (fun _ _ _ _ _ _ us ws h1 h2 => match us, ws, h1, h2 with | [_, _], [], _, _ => rfl)
  · exact kbn F 1 ["first"] false (fun _ _ _ _ _ _ us ws h1 h2 => match us, ws, h1, h2 with | [_], [_], _, _ => rfl)

abbrev si_NotOne : Stmt := inCls (top 17) 0
abbrev tp_NotOne : List (Str × Fl) := [("code", .s "NotOne"), ("first", .a 0)]
abbrev md_NotOne : List (Nat × List Str × Bool) := [(1, [], false), (0, ["first"], false)]
theorem sci_NotOne : FnScope ["self", "first"] ["self", "first"] (defScope si_NotOne) := ⟨rfl, rfl, rfl, by decide +kernel, rfl, by decide +kernel, by decide +kernel⟩
theorem mk_NotOne (ev : Ev K mg) : MkX P w K mg base "NotOne" 1 tp_NotOne md_NotOne := by
  have f : ExF K "NotOne" ["code", "first"] := exB_ok (b := .ve) (ev.exx (by decide +kernel : (("NotOne" : Str), Bs.ve, (["code", "first"] : List Str)) ∈ exL))
  obtain ⟨fd, F⟩ := ev.says.def_ DI_NotOne rfl
  refine ⟨f.T, ⟨_, fd, ["self", "first"], f.iC, f.tI, ok_init2 f.T rfl rfl (f.no _ (by simp)) (f.no _ (by simp)) F sci_NotOne, ?_⟩, ev.glo "NotOne", fun fs h => f.cls fs (by rw [h]; decide +kernel)⟩
  intro md h
  simp only [md_NotOne, List.mem_cons, List.not_mem_nil, or_false] at h
  rcases h with rfl | rfl
  · exact kbn F 2 [] false (fun _ _ _ _ _ _ us ws h1 h2 => match us, ws, h1, h2 with | [_, _], [], _, _ => rfl)
  · exact kbn F 1 ["first"] false (fun _ _ _ _ _ _ us ws h1 h2 => match us, ws, h1, h2 with | [_], [_], _, _ => rfl)

abbrev si_IsStill : Stmt := inCls (top 16) 0
abbrev tp_IsStill : List (Str × Fl) := [("code", .s "IsStill"), ("have", .a 0)]
abbrev md_IsStill : List (Nat × List Str × Bool) := [(1, [], false), (0, ["have"], false)]
theorem sci_IsStill : FnScope ["self", "have"] ["self", "have"] (defScope si_IsStill) := ⟨rfl, rfl, rfl, by decide +kernel, rfl, by decide +kernel, by decide +kernel⟩
theorem mk_IsStill (ev : Ev K mg) : MkX P w K mg base "IsStill" 1 tp_IsStill md_IsStill := by
  have f : ExF K "IsStill" ["code", "have"] := exB_ok (b := .ve) (ev.exx (by decide +kernel : (("IsStill" : Str), Bs.ve, (["code", "have"] : List Str)) ∈ exL))
  obtain ⟨fd, F⟩ := ev.says.def_ DI_IsStill rfl
  refine ⟨f.T, ⟨_, fd, ["self", "have"], f.iC, f.tI, ok_init2 f.T rfl rfl (f.no _ (by simp)) (f.no _ (by simp)) F sci_IsStill, ?_⟩, ev.glo "IsStill", fun fs h => f.cls fs (by rw [h]; decide +kernel)⟩
  intro md h
  simp only [md_IsStill, List.mem_cons, List.not_mem_nil, or_false] at h
  rcases h with rfl | rfl
  · exact kbn F 2 [] false (fun _ _ _ _ _ _ us ws h1 h2 => match us, ws, h1, h2 with | [_, _], [], _, _ => rfl)
  · exact kbn F 1 ["have"] false (fun _ _ _ _ _ _ us ws h1 h2 => match us, ws, h1, h2 with | [_], [_], _, _ => rfl)

abbrev si_NotAFlow : Stmt := inCls (top 20) 0
abbrev tp_NotAFlow : List (Str × Fl) := [("code", .s "NotAFlow"), ("place", .a 0)]
abbrev md_NotAFlow : List (Nat × List Str × Bool) := [(1, [], false), (0, ["place"], false)]
theorem sci_NotAFlow : FnScope ["self", "place"] ["self", "place"] (defScope si_NotAFlow) := ⟨rfl, rfl, rfl, by decide +kernel, rfl, by decide +kernel, by decide +kernel⟩
theorem mk_NotAFlow (ev : Ev K mg) : MkX P w K mg base "NotAFlow" 1 tp_NotAFlow md_NotAFlow := by
  have f : ExF K "NotAFlow" ["code", "place"] := exB_ok (b := .ve) (ev.exx (by decide +kernel : (("NotAFlow" : Str), Bs.ve, (["code", "place"] : List Str)) ∈ exL))
  obtain ⟨fd, F⟩ := ev.says.def_ DI_NotAFlow rfl
  refine ⟨f.T, ⟨_, fd, ["self", "place"], f.iC, f.tI, ok_init2 f.T rfl rfl (f.no _ (by simp)) (f.no _ (by simp)) F sci_NotAFlow, ?_⟩, ev.glo "NotAFlow", fun fs h => f.cls fs (by rw [h]; decide +kernel)⟩
  intro md h
  simp only [md_NotAFlow, List.mem_cons, List.not_mem_nil, or_false] at h
  rcases h with rfl | rfl
  · exact kbn F 2 [] false (fun _ _ _ _ _ _ us ws h1 h2 => match us, ws, h1, h2 with | [_, _], [], _, _ => rfl)
  · exact kbn F 1 ["place"] false (fun _ _ _ _ _ _ us ws h1 h2 => match us, ws, h1, h2 with | [_], [_], _, _ => rfl)

abbrev si_InvalidFlat : Stmt := inCls (top 21) 0
abbrev tp_InvalidFlat : List (Str × Fl) := [("code", .s "InvalidFlat"), ("value", .a 0)]
abbrev md_InvalidFlat : List (Nat × List Str × Bool) := [(1, [], false), (0, ["value"], false)]
theorem sci_InvalidFlat : FnScope ["self", "value"] ["self", "value"] (defScope si_InvalidFlat) := ⟨rfl, rfl, rfl, by decide +kernel, rfl, by decide +kernel, by decide +kernel⟩
theorem mk_InvalidFlat (ev : Ev K mg) : MkX P w K mg base "InvalidFlat" 1 tp_InvalidFlat md_InvalidFlat := by
  have f : ExF K "InvalidFlat" ["code", "value"] := exB_ok (b := .ve) (ev.exx (by decide +kernel : (("InvalidFlat" : Str), Bs.ve, (["code", "value"] : List Str)) ∈ exL))
  obtain ⟨fd, F⟩ := ev.says.def_ DI_InvalidFlat rfl
  refine ⟨f.T, ⟨_, fd, ["self", "value"], f.iC, f.tI, ok_init2 f.T rfl rfl (f.no _ (by simp)) (f.no _ (by simp)) F sci_InvalidFlat, ?_⟩, ev.glo "InvalidFlat", fun fs h => f.cls fs (by rw [h]; decide +kernel)⟩
  intro md h
  simp only [md_InvalidFlat, List.mem_cons, List.not_mem_nil, or_false] at h
  rcases h with rfl | rfl
  · exact kbn F 2 [] false (fun _ _ _ _ _ _ us ws h1 h2 => match us, ws, h1, h2 with | [_, _], [], _, _ => rfl)
  · exact kbn F 1 ["value"] false (fun _ _ _ _ _ _ us ws h1 h2 => match us, ws, h1, h2 with | [_], [_], _, _ => rfl)

abbrev si_NotAlike : Stmt := inCls (top 24) 0
abbrev tp_NotAlike : List (Str × Fl) := [("code", .s "NotAlike"), ("paper", .a 0)]
abbrev md_NotAlike : List (Nat × List Str × Bool) := [(1, [], false), (0, ["paper"], false)]
theorem sci_NotAlike : FnScope ["self", "paper"] ["self", "paper"] (defScope si_NotAlike) := ⟨rfl, rfl, rfl, by decide +kernel, rfl, by decide +kernel, by decide +kernel⟩
theorem mk_NotAlike (ev : Ev K mg) : MkX P w K mg base "NotAlike" 1 tp_NotAlike md_NotAlike := by
  have f : ExF K "NotAlike" ["code", "paper"] := exB_ok (b := .ve) (ev.exx (by decide +kernel : (("NotAlike" : Str), Bs.ve, (["code", "paper"] : List Str)) ∈ exL))
  obtain ⟨fd, F⟩ := ev.says.def_ DI_NotAlike rfl
  refine ⟨f.T, ⟨_, fd, ["self", "paper"], f.iC, f.tI, ok_init2 f.T rfl rfl (f.no _ (by simp)) (f.no _ (by simp)) F sci_NotAlike, ?_⟩, ev.glo "NotAlike", fun fs h => f.cls fs (by rw [h]; decide +kernel)⟩
  intro md h
  simp only [md_NotAlike, List.mem_cons, List.not_mem_nil, or_false] at h
  rcases h with rfl | rfl
  · exact kbn F 2 [] false (fun _ _ _ _ _ _ us ws h1 h2 => match us, ws, h1, h2 with | [_, _], [], _, _ => rfl)
  · exact kbn F 1 ["paper"] false (fun _ _ _ _ _ _ us ws h1 h2 => match us, ws, h1, h2 with | [_], [_], _, _ => rfl)

abbrev si_InvalidLead : Stmt := inCls (top 25) 0
abbrev tp_InvalidLead : List (Str × Fl) := [("code", .s "InvalidLead"), ("value", .a 0)]
abbrev md_InvalidLead : List (Nat × List Str × Bool) := [(1, [], false), (0, ["value"], false)]
theorem sci_InvalidLead : FnScope ["self", "value"] ["self", "value"] (defScope si_InvalidLead) := ⟨rfl, rfl, rfl, by decide +kernel, rfl, by decide +kernel, by decide +kernel⟩
theorem mk_InvalidLead (ev : Ev K mg) : MkX P w K mg base "InvalidLead" 1 tp_InvalidLead md_InvalidLead := by
  have f : ExF K "InvalidLead" ["code", "value"] := exB_ok (b := .ve) (ev.exx (by decide +kernel : (("InvalidLead" : Str), Bs.ve, (["code", "value"] : List Str)) ∈ exL))
  obtain ⟨fd, F⟩ := ev.says.def_ DI_InvalidLead rfl
  refine ⟨f.T, ⟨_, fd, ["self", "value"], f.iC, f.tI, ok_init2 f.T rfl rfl (f.no _ (by simp)) (f.no _ (by simp)) F sci_InvalidLead, ?_⟩, ev.glo "InvalidLead", fun fs h => f.cls fs (by rw [h]; decide +kernel)⟩
  intro md h
  simp only [md_InvalidLead, List.mem_cons, List.not_mem_nil, or_false] at h
  rcases h with rfl | rfl
  · exact kbn F 2 [] false (fun _ _ _ _ _ _ us ws h1 h2 => match us, ws, h1, h2 with | [_, _], [], _, _ => rfl)
  · exact kbn F 1 ["value"] false (fun _ _ _ _ _ _ us ws h1 h2 => match us, ws, h1, h2 with | [_], [_], _, _ => rfl)

abbrev si_InvalidTime : Stmt := inCls (top 26) 0
abbrev tp_InvalidTime : List (Str × Fl) := [("code", .s "InvalidTime"), ("value", .a 0)]
abbrev md_InvalidTime : List (Nat × List Str × Bool) := [(1, [], false), (0, ["value"], false)]
theorem sci_InvalidTime : FnScope ["self", "value"] ["self", "value"] (defScope si_InvalidTime) := ⟨rfl, rfl, rfl, by decide +kernel, rfl, by decide +kernel, by decide +kernel⟩
theorem mk_InvalidTime (ev : Ev K mg) : MkX P w K mg base "InvalidTime" 1 tp_InvalidTime md_InvalidTime := by
  have f : ExF K "InvalidTime" ["code", "value"] := exB_ok (b := .ve) (ev.exx (by decide +kernel : (("InvalidTime" : Str), Bs.ve, (["code", "value"] : List Str)) ∈ exL))
  obtain ⟨fd, F⟩ := ev.says.def_ DI_InvalidTime rfl
  refine ⟨f.T, ⟨_, fd, ["self", "value"], f.iC, f.tI, ok_init2 f.T rfl rfl (f.no _ (by simp)) (f.no _ (by simp)) F sci_InvalidTime, ?_⟩, ev.glo "InvalidTime", fun fs h => f.cls fs (by rw [h]; decide +kernel)⟩
  intro md h
  simp only [md_InvalidTime, List.mem_cons, List.not_mem_nil, or_false] at h
  rcases h with rfl | rfl
  · exact kbn F 2 [] false (fun _ _ _ _ _ _ us ws h1 h2 => match us, ws, h1, h2 with | [_, _], [], _, _ => rfl)
  · exact kbn F 1 ["value"] false (fun _ _ _ _ _ _ us ws h1 h2 => match us, ws, h1, h2 with | [_], [_], _, _ => rfl)

abbrev si_InvalidTop : Stmt := inCls (top 27) 0
abbrev tp_InvalidTop : List (Str × Fl) := [("code", .s "InvalidTop"), ("at", .a 0)]
abbrev md_InvalidTop : List (Nat × List Str × Bool) := [(1, [], false), (0, ["at"], false)]
theorem sci_InvalidTop : FnScope ["self", "at"] ["self", "at"] (defScope si_InvalidTop) := ⟨rfl, rfl, rfl, by decide +kernel, rfl, by decide +kernel, by decide +kernel⟩
theorem mk_InvalidTop (ev : Ev K mg) : MkX P w K mg base "InvalidTop" 1 tp_InvalidTop md_InvalidTop := by
  have f : ExF K "InvalidTop" ["code", "at"] := exB_ok (b := .ve) (ev.exx (by decide +kernel : (("InvalidTop" : Str), Bs.ve, (["code", "at"] : List Str)) ∈ exL))
  obtain ⟨fd, F⟩ := ev.says.def_ DI_InvalidTop rfl
  refine ⟨f.T, ⟨_, fd, ["self", "at"], f.iC, f.tI, ok_init2 f.T rfl rfl (f.no _ (by simp)) (f.no _ (by simp)) F sci_InvalidTop, ?_⟩, ev.glo "InvalidTop", fun fs h => f.cls fs (by rw [h]; decide +kernel)⟩
  intro md h
  simp only [md_InvalidTop, List.mem_cons, List.not_mem_nil, or_false] at h
  rcases h with rfl | rfl
  · exact kbn F 2 [] false (fun _ _ _ _ _ _ us ws h1 h2 => match us, ws, h1, h2 with | [_, _], [], _, _ => rfl)
  · exact kbn F 1 ["at"] false (fun _ _ _ _ _ _ us ws h1 h2 => match us, ws, h1, h2 with | [_], [_], _, _ => rfl)

abbrev si_NotInFamily : Stmt := inCls (top 28) 0
abbrev tp_NotInFamily : List (Str × Fl) := [("code", .s "NotInFamily"), ("place", .a 0)]
abbrev md_NotInFamily : List (Nat × List Str × Bool) := [(1, [], false), (0, ["place"], false)]
theorem sci_NotInFamily : FnScope ["self", "place"] ["self", "place"] (defScope si_NotInFamily) := ⟨rfl, rfl, rfl, by decide +kernel, rfl, by decide +kernel, by decide +kernel⟩
theorem mk_NotInFamily (ev : Ev K mg) : MkX P w K mg base "NotInFamily" 1 tp_NotInFamily md_NotInFamily := by
  have f : ExF K "NotInFamily" ["code", "place"] := exB_ok (b := .ve) (ev.exx (by decide +kernel : (("NotInFamily" : Str), Bs.ve, (["code", "place"] : List Str)) ∈ exL))
  obtain ⟨fd, F⟩ := ev.says.def_ DI_NotInFamily rfl
  refine ⟨f.T, ⟨_, fd, ["self", "place"], f.iC, f.tI, ok_init2 f.T rfl rfl (f.no _ (by simp)) (f.no _ (by simp)) F sci_NotInFamily, ?_⟩, ev.glo "NotInFamily", fun fs h => f.cls fs (by rw [h]; decide +kernel)⟩
  intro md h
  simp only [md_NotInFamily, List.mem_cons, List.not_mem_nil, or_false] at h
  rcases h with rfl | rfl
  · exact kbn F 2 [] false (fun _ _ _ _ _ _ us ws h1 h2 => match us, ws, h1, h2 with | [_, _], [], _, _ => rfl)
  · exact kbn F 1 ["place"] false (fun _ _ _ _ _ _ us ws h1 h2 => match us, ws, h1, h2 with | [_], [_], _, _ => rfl)

abbrev si_NotFolded : Stmt := inCls (top 30) 0
abbrev tp_NotFolded : List (Str × Fl) := [("code", .s "NotFolded"), ("value", .a 0)]
abbrev md_NotFolded : List (Nat × List Str × Bool) := [(1, [], false), (0, ["value"], false)]
theorem sci_NotFolded : FnScope ["self", "value"] ["self", "value"] (defScope si_NotFolded) := ⟨rfl, rfl, rfl, by decide +kernel, rfl, by decide +kernel, by decide +kernel⟩
theorem mk_NotFolded (ev : Ev K mg) : MkX P w K mg base "NotFolded" 1 tp_NotFolded md_NotFolded := by
  have f : ExF K "NotFolded" ["code", "value"] := exB_ok (b := .ve) (ev.exx (by decide +kernel : (("NotFolded" : Str), Bs.ve, (["code", "value"] : List Str)) ∈ exL))
  obtain ⟨fd, F⟩ := ev.says.def_ DI_NotFolded rfl
  refine ⟨f.T, ⟨_, fd, ["self", "value"], f.iC, f.tI, ok_init2 f.T rfl rfl (f.no _ (by simp)) (f.no _ (by simp)) F sci_NotFolded, ?_⟩, ev.glo "NotFolded", fun fs h => f.cls fs (by rw [h]; decide +kernel)⟩
  intro md h
  simp only [md_NotFolded, List.mem_cons, List.not_mem_nil, or_false] at h
  rcases h with rfl | rfl
  · exact kbn F 2 [] false (fun _ _ _ _ _ _ us ws h1 h2 => match us, ws, h1, h2 with | [_, _], [], _, _ => rfl)
  · exact kbn F 1 ["value"] false (fun _ _ _ _ _ _ us ws h1 h2 => match us, ws, h1, h2 with | [_], [_], _, _ => rfl)

abbrev si_InvalidFar : Stmt := inCls (top 31) 0
abbrev tp_InvalidFar : List (Str × Fl) := [("code", .s "InvalidFar"), ("at", .a 0)]
abbrev md_InvalidFar : List (Nat × List Str × Bool) := [(1, [], false), (0, ["at"], false)]
theorem sci_InvalidFar : FnScope ["self", "at"] ["self", "at"] (defScope si_InvalidFar) := ⟨rfl, rfl, rfl, by decide +kernel, rfl, by decide +kernel, by decide +kernel⟩
theorem mk_InvalidFar (ev : Ev K mg) : MkX P w K mg base "InvalidFar" 1 tp_InvalidFar md_InvalidFar := by
  have f : ExF K "InvalidFar" ["code", "at"] := exB_ok (b := .ve) (ev.exx (by decide +kernel : (("InvalidFar" : Str), Bs.ve, (["code", "at"] : List Str)) ∈ exL))
  obtain ⟨fd, F⟩ := ev.says.def_ DI_InvalidFar rfl
  refine ⟨f.T, ⟨_, fd, ["self", "at"], f.iC, f.tI, ok_init2 f.T rfl rfl (f.no _ (by simp)) (f.no _ (by simp)) F sci_InvalidFar, ?_⟩, ev.glo "InvalidFar", fun fs h => f.cls fs (by rw [h]; decide +kernel)⟩
  intro md h
  simp only [md_InvalidFar, List.mem_cons, List.not_mem_nil, or_false] at h
  rcases h with rfl | rfl
  · exact kbn F 2 [] false (fun _ _ _ _ _ _ us ws h1 h2 => match us, ws, h1, h2 with | [_, _], [], _, _ => rfl)
  · exact kbn F 1 ["at"] false (fun _ _ _ _ _ _ us ws h1 h2 => match us, ws, h1, h2 with | [_], [_], _, _ => rfl)

abbrev si_NotFar : Stmt := inCls (top 32) 0
abbrev tp_NotFar : List (Str × Fl) := [("code", .s "NotFar"), ("place", .a 0)]
abbrev md_NotFar : List (Nat × List Str × Bool) := [(1, [], false), (0, ["place"], false)]
theorem sci_NotFar : FnScope ["self", "place"] ["self", "place"] (defScope si_NotFar) := ⟨rfl, rfl, rfl, by decide +kernel, rfl, by decide +kernel, by decide +kernel⟩
theorem mk_NotFar (ev : Ev K mg) : MkX P w K mg base "NotFar" 1 tp_NotFar md_NotFar := by
  have f : ExF K "NotFar" ["code", "place"] := exB_ok (b := .ve) (ev.exx (by decide +kernel : (("NotFar" : Str), Bs.ve, (["code", "place"] : List Str)) ∈ exL))
  obtain ⟨fd, F⟩ := ev.says.def_ DI_NotFar rfl
  refine ⟨f.T, ⟨_, fd, ["self", "place"], f.iC, f.tI, ok_init2 f.T rfl rfl (f.no _ (by simp)) (f.no _ (by simp)) F sci_NotFar, ?_⟩, ev.glo "NotFar", fun fs h => f.cls fs (by rw [h]; decide +kernel)⟩
  intro md h
  simp only [md_NotFar, List.mem_cons, List.not_mem_nil, or_false] at h
  rcases h with rfl | rfl
  · exact kbn F 2 [] false (fun _ _ _ _ _ _ us ws h1 h2 => match us, ws, h1, h2 with | [_, _], [], _, _ => rfl)
  · exact kbn F 1 ["place"] false (fun _ _ _ _ _ _ us ws h1 h2 => match us, ws, h1, h2 with | [_], [_], _, _ => rfl)

abbrev si_NotLed : Stmt := inCls (top 33) 0
abbrev tp_NotLed : List (Str × Fl) := [("code", .s "NotLed"), ("first", .a 0)]
abbrev md_NotLed : List (Nat × List Str × Bool) := [(1, [], false), (0, ["first"], false)]
theorem sci_NotLed : FnScope ["self", "first"] ["self", "first"] (defScope si_NotLed) := ⟨rfl, rfl, rfl, by decide +kernel, rfl, by decide +kernel, by decide +kernel⟩
theorem mk_NotLed (ev : Ev K mg) : MkX P w K mg base "NotLed" 1 tp_NotLed md_NotLed := by
  have f : ExF K "NotLed" ["code", "first"] := exB_ok (b := .ve) (ev.exx (by decide +kernel : (("NotLed" : Str), Bs.ve, (["code", "first"] : List Str)) ∈ exL))
  obtain ⟨fd, F⟩ := ev.says.def_ DI_NotLed rfl
  refine ⟨f.T, ⟨_, fd, ["self", "first"], f.iC, f.tI, ok_init2 f.T rfl rfl (f.no _ (by simp)) (f.no _ (by simp)) F sci_NotLed, ?_⟩, ev.glo "NotLed", fun fs h => f.cls fs (by rw [h]; decide +kernel)⟩
  intro md h
  simp only [md_NotLed, List.mem_cons, List.not_mem_nil, or_false] at h
  rcases h with rfl | rfl
  · exact kbn F 2 [] false (fun _ _ _ _ _ _ us ws h1 h2 => match us, ws, h1, h2 with | [_, _], [], _, _ => rfl)
  · exact kbn F 1 ["first"] false (fun _ _ _ _ _ _ us ws h1 h2 => match us, ws, h1, h2 with | [_], [_], _, _ => rfl)

abbrev si_NotInCrew : Stmt := inCls (top 34) 0
abbrev tp_NotInCrew : List (Str × Fl) := [("code", .s "NotInCrew"), ("paper", .a 0)]
abbrev md_NotInCrew : List (Nat × List Str × Bool) := [(1, [], false), (0, ["paper"], false)]
theorem sci_NotInCrew : FnScope ["self", "paper"] ["self", "paper"] (defScope si_NotInCrew) := ⟨rfl, rfl, rfl, by decide +kernel, rfl, by decide +kernel, by decide +kernel⟩
theorem mk_NotInCrew (ev : Ev K mg) : MkX P w K mg base "NotInCrew" 1 tp_NotInCrew md_NotInCrew := by
  have f : ExF K "NotInCrew" ["code", "paper"] := exB_ok (b := .ve) (ev.exx (by decide +kernel : (("NotInCrew" : Str), Bs.ve, (["code", "paper"] : List Str)) ∈ exL))
  obtain ⟨fd, F⟩ := ev.says.def_ DI_NotInCrew rfl
  refine ⟨f.T, ⟨_, fd, ["self", "paper"], f.iC, f.tI, ok_init2 f.T rfl rfl (f.no _ (by simp)) (f.no _ (by simp)) F sci_NotInCrew, ?_⟩, ev.glo "NotInCrew", fun fs h => f.cls fs (by rw [h]; decide +kernel)⟩
  intro md h
  simp only [md_NotInCrew, List.mem_cons, List.not_mem_nil, or_false] at h
  rcases h with rfl | rfl
  · exact kbn F 2 [] false (fun _ _ _ _ _ _ us ws h1 h2 => match us, ws, h1, h2 with | [_, _], [], _, _ => rfl)
  · exact kbn F 1 ["paper"] false (fun _ _ _ _ _ _ us ws h1 h2 => match us, ws, h1, h2 with | [_], [_], _, _ => rfl)

abbrev si_InvalidName : Stmt := inCls (top 36) 0
abbrev tp_InvalidName : List (Str × Fl) := [("code", .s "InvalidName"), ("value", .a 0)]
abbrev md_InvalidName : List (Nat × List Str × Bool) := [(1, [], false), (0, ["value"], false)]
theorem sci_InvalidName : FnScope ["self", "value"] ["self", "value"] (defScope si_InvalidName) := ⟨rfl, rfl, rfl, by decide +kernel, rfl, by decide +kernel, by decide +kernel⟩
theorem mk_InvalidName (ev : Ev K mg) : MkX P w K mg base "InvalidName" 1 tp_InvalidName md_InvalidName := by
  have f : ExF K "InvalidName" ["code", "value"] := exB_ok (b := .ve) (ev.exx (by decide +kernel : (("InvalidName" : Str), Bs.ve, (["code", "value"] : List Str)) ∈ exL))
  obtain ⟨fd, F⟩ := ev.says.def_ DI_InvalidName rfl
  refine ⟨f.T, ⟨_, fd, ["self", "value"], f.iC, f.tI, ok_init2 f.T rfl rfl (f.no _ (by simp)) (f.no _ (by simp)) F sci_InvalidName, ?_⟩, ev.glo "InvalidName", fun fs h => f.cls fs (by rw [h]; decide +kernel)⟩
  intro md h
  simp only [md_InvalidName, List.mem_cons, List.not_mem_nil, or_false] at h
  rcases h with rfl | rfl
  · exact kbn F 2 [] false (fun _ _ _ _ _ _ us ws h1 h2 => match us, ws, h1, h2 with | [_, _], [], _, _ => rfl)
  · exact kbn F 1 ["value"] false (fun _ _ _ _ _ _ us ws h1 h2 => match us, ws, h1, h2 with | [_], [_], _, _ => rfl)

abbrev si_InvalidNames : Stmt := inCls (top 37) 0
abbrev tp_InvalidNames : List (Str × Fl) := [("code", .s "InvalidNames"), ("at", .a 0)]
abbrev md_InvalidNames : List (Nat × List Str × Bool) := [(1, [], false), (0, ["at"], false)]
theorem sci_InvalidNames : FnScope ["self", "at"] ["self", "at"] (defScope si_InvalidNames) := ⟨rfl, rfl, rfl, by decide +kernel, rfl, by decide +kernel, by decide +kernel⟩
theorem mk_InvalidNames (ev : Ev K mg) : MkX P w K mg base "InvalidNames" 1 tp_InvalidNames md_InvalidNames := by
  have f : ExF K "InvalidNames" ["code", "at"] := exB_ok (b := .ve) (ev.exx (by decide +kernel : (("InvalidNames" : Str), Bs.ve, (["code", "at"] : List Str)) ∈ exL))
  obtain ⟨fd, F⟩ := ev.says.def_ DI_InvalidNames rfl
  refine ⟨f.T, ⟨_, fd, ["self", "at"], f.iC, f.tI, ok_init2 f.T rfl rfl (f.no _ (by simp)) (f.no _ (by simp)) F sci_InvalidNames, ?_⟩, ev.glo "InvalidNames", fun fs h => f.cls fs (by rw [h]; decide +kernel)⟩
  intro md h
  simp only [md_InvalidNames, List.mem_cons, List.not_mem_nil, or_false] at h
  rcases h with rfl | rfl
  · exact kbn F 2 [] false (fun _ _ _ _ _ _ us ws h1 h2 => match us, ws, h1, h2 with | [_, _], [], _, _ => rfl)
  · exact kbn F 1 ["at"] false (fun _ _ _ _ _ _ us ws h1 h2 => match us, ws, h1, h2 with | [_], [_], _, _ => rfl)

abbrev si_InvalidWord : Stmt := inCls (top 38) 0
abbrev tp_InvalidWord : List (Str × Fl) := [("code", .s "InvalidWord"), ("at", .a 0)]
abbrev md_InvalidWord : List (Nat × List Str × Bool) := [(1, [], false), (0, ["at"], false)]
theorem sci_InvalidWord : FnScope ["self", "at"] ["self", "at"] (defScope si_InvalidWord) := ⟨rfl, rfl, rfl, by decide +kernel, rfl, by decide +kernel, by decide +kernel⟩
theorem mk_InvalidWord (ev : Ev K mg) : MkX P w K mg base "InvalidWord" 1 tp_InvalidWord md_InvalidWord := by
  have f : ExF K "InvalidWord" ["code", "at"] := exB_ok (b := .ve) (ev.exx (by decide +kernel : (("InvalidWord" : Str), Bs.ve, (["code", "at"] : List Str)) ∈ exL))
  obtain ⟨fd, F⟩ := ev.says.def_ DI_InvalidWord rfl
  refine ⟨f.T, ⟨_, fd, ["self", "at"], f.iC, f.tI, ok_init2 f.T rfl rfl (f.no _ (by simp)) (f.no _ (by simp)) F sci_InvalidWord, ?_⟩, ev.glo "InvalidWord", fun fs h => f.cls fs (by rw [h]; decide +kernel)⟩
  intro md h
  simp only [md_InvalidWord, List.mem_cons, List.not_mem_nil, or_false] at h
  rcases h with rfl | rfl
  · exact kbn F 2 [] false (fun _ _ _ _ _ _ us ws h1 h2 => match us, ws, h1, h2 with | [_, _], [], _, _ => rfl)
  · exact kbn F 1 ["at"] false (fun _ _ _ _ _ _ us ws h1 h2 => match us, ws, h1, h2 with | [_], [_], _, _ => rfl)

abbrev si_SameName : Stmt := inCls (top 39) 0
abbrev tp_SameName : List (Str × Fl) := [("code", .s "SameName"), ("name", .a 0)]
abbrev md_SameName : List (Nat × List Str × Bool) := [(1, [], false), (0, ["name"], false)]
theorem sci_SameName : FnScope ["self", "name"] ["self", "name"] (defScope si_SameName) := ⟨rfl, rfl, rfl, by decide +kernel, rfl, by decide +kernel, by decide +kernel⟩
theorem mk_SameName (ev : Ev K mg) : MkX P w K mg base "SameName" 1 tp_SameName md_SameName := by
  have f : ExF K "SameName" ["code", "name"] := exB_ok (b := .ve) (ev.exx (by decide +kernel : (("SameName" : Str), Bs.ve, (["code", "name"] : List Str)) ∈ exL))
  obtain ⟨fd, F⟩ := ev.says.def_ DI_SameName rfl
  refine ⟨f.T, ⟨_, fd, ["self", "name"], f.iC, f.tI, ok_init2 f.T rfl rfl (f.no _ (by simp)) (f.no _ (by simp)) F sci_SameName, ?_⟩, ev.glo "SameName", fun fs h => f.cls fs (by rw [h]; decide +kernel)⟩
  intro md h
  simp only [md_SameName, List.mem_cons, List.not_mem_nil, or_false] at h
  rcases h with rfl | rfl
  · exact kbn F 2 [] false (fun _ _ _ _ _ _ us ws h1 h2 => match us, ws, h1, h2 with | [_, _], [], _, _ => rfl)
  · exact kbn F 1 ["name"] false (fun _ _ _ _ _ _ us ws h1 h2 => match us, ws, h1, h2 with | [_], [_], _, _ => rfl)

abbrev si_InvalidPaper : Stmt := inCls (top 42) 0
abbrev tp_InvalidPaper : List (Str × Fl) := [("code", .s "InvalidPaper"), ("at", .a 0)]
abbrev md_InvalidPaper : List (Nat × List Str × Bool) := [(1, [], false), (0, ["at"], false)]
theorem sci_InvalidPaper : FnScope ["self", "at"] ["self", "at"] (defScope si_InvalidPaper) := ⟨rfl, rfl, rfl, by decide +kernel, rfl, by decide +kernel, by decide +kernel⟩
theorem mk_InvalidPaper (ev : Ev K mg) : MkX P w K mg base "InvalidPaper" 1 tp_InvalidPaper md_InvalidPaper := by
  have f : ExF K "InvalidPaper" ["code", "at"] := exB_ok (b := .ve) (ev.exx (by decide +kernel : (("InvalidPaper" : Str), Bs.ve, (["code", "at"] : List Str)) ∈ exL))
  obtain ⟨fd, F⟩ := ev.says.def_ DI_InvalidPaper rfl
  refine ⟨f.T, ⟨_, fd, ["self", "at"], f.iC, f.tI, ok_init2 f.T rfl rfl (f.no _ (by simp)) (f.no _ (by simp)) F sci_InvalidPaper, ?_⟩, ev.glo "InvalidPaper", fun fs h => f.cls fs (by rw [h]; decide +kernel)⟩
  intro md h
  simp only [md_InvalidPaper, List.mem_cons, List.not_mem_nil, or_false] at h
  rcases h with rfl | rfl
  · exact kbn F 2 [] false (fun _ _ _ _ _ _ us ws h1 h2 => match us, ws, h1, h2 with | [_, _], [], _, _ => rfl)
  · exact kbn F 1 ["at"] false (fun _ _ _ _ _ _ us ws h1 h2 => match us, ws, h1, h2 with | [_], [_], _, _ => rfl)

abbrev si_InvalidDeed : Stmt := inCls (top 43) 0
abbrev tp_InvalidDeed : List (Str × Fl) := [("code", .s "InvalidDeed"), ("at", .a 0)]
abbrev md_InvalidDeed : List (Nat × List Str × Bool) := [(1, [], false), (0, ["at"], false)]
theorem sci_InvalidDeed : FnScope ["self", "at"] ["self", "at"] (defScope si_InvalidDeed) := ⟨rfl, rfl, rfl, by decide +kernel, rfl, by decide +kernel, by decide +kernel⟩
theorem mk_InvalidDeed (ev : Ev K mg) : MkX P w K mg base "InvalidDeed" 1 tp_InvalidDeed md_InvalidDeed := by
  have f : ExF K "InvalidDeed" ["code", "at"] := exB_ok (b := .ve) (ev.exx (by decide +kernel : (("InvalidDeed" : Str), Bs.ve, (["code", "at"] : List Str)) ∈ exL))
  obtain ⟨fd, F⟩ := ev.says.def_ DI_InvalidDeed rfl
  refine ⟨f.T, ⟨_, fd, ["self", "at"], f.iC, f.tI, ok_init2 f.T rfl rfl (f.no _ (by simp)) (f.no _ (by simp)) F sci_InvalidDeed, ?_⟩, ev.glo "InvalidDeed", fun fs h => f.cls fs (by rw [h]; decide +kernel)⟩
  intro md h
  simp only [md_InvalidDeed, List.mem_cons, List.not_mem_nil, or_false] at h
  rcases h with rfl | rfl
  · exact kbn F 2 [] false (fun _ _ _ _ _ _ us ws h1 h2 => match us, ws, h1, h2 with | [_, _], [], _, _ => rfl)
  · exact kbn F 1 ["at"] false (fun _ _ _ _ _ _ us ws h1 h2 => match us, ws, h1, h2 with | [_], [_], _, _ => rfl)

abbrev si_InvalidLine : Stmt := inCls (top 44) 0
abbrev tp_InvalidLine : List (Str × Fl) := [("code", .s "InvalidLine"), ("line", .a 0)]
abbrev md_InvalidLine : List (Nat × List Str × Bool) := [(1, [], false), (0, ["line"], false)]
theorem sci_InvalidLine : FnScope ["self", "line"] ["self", "line"] (defScope si_InvalidLine) := ⟨rfl, rfl, rfl, by decide +kernel, rfl, by decide +kernel, by decide +kernel⟩
theorem mk_InvalidLine (ev : Ev K mg) : MkX P w K mg base "InvalidLine" 1 tp_InvalidLine md_InvalidLine := by
  have f : ExF K "InvalidLine" ["code", "line"] := exB_ok (b := .ve) (ev.exx (by decide +kernel : (("InvalidLine" : Str), Bs.ve, (["code", "line"] : List Str)) ∈ exL))
  obtain ⟨fd, F⟩ := ev.says.def_ DI_InvalidLine rfl
  refine ⟨f.T, ⟨_, fd, ["self", "line"], f.iC, f.tI, ok_init2 f.T rfl rfl (f.no _ (by simp)) (f.no _ (by simp)) F sci_InvalidLine, ?_⟩, ev.glo "InvalidLine", fun fs h => f.cls fs (by rw [h]; decide +kernel)⟩
  intro md h
  simp only [md_InvalidLine, List.mem_cons, List.not_mem_nil, or_false] at h
  rcases h with rfl | rfl
  · exact kbn F 2 [] false (fun _ _ _ _ _ _ us ws h1 h2 => match us, ws, h1, h2 with | [_, _], [], _, _ => rfl)
  · exact kbn F 1 ["line"] false (fun _ _ _ _ _ _ us ws h1 h2 => match us, ws, h1, h2 with | [_], [_], _, _ => rfl)

abbrev si_TooMany : Stmt := inCls (top 45) 0
abbrev tp_TooMany : List (Str × Fl) := [("code", .s "TooMany"), ("most", .a 0)]
abbrev md_TooMany : List (Nat × List Str × Bool) := [(1, [], false), (0, ["most"], false)]
theorem sci_TooMany : FnScope ["self", "most"] ["self", "most"] (defScope si_TooMany) := ⟨rfl, rfl, rfl, by decide +kernel, rfl, by decide +kernel, by decide +kernel⟩
theorem mk_TooMany (ev : Ev K mg) : MkX P w K mg base "TooMany" 1 tp_TooMany md_TooMany := by
  have f : ExF K "TooMany" ["code", "most"] := exB_ok (b := .ve) (ev.exx (by decide +kernel : (("TooMany" : Str), Bs.ve, (["code", "most"] : List Str)) ∈ exL))
  obtain ⟨fd, F⟩ := ev.says.def_ DI_TooMany rfl
  refine ⟨f.T, ⟨_, fd, ["self", "most"], f.iC, f.tI, ok_init2 f.T rfl rfl (f.no _ (by simp)) (f.no _ (by simp)) F sci_TooMany, ?_⟩, ev.glo "TooMany", fun fs h => f.cls fs (by rw [h]; decide +kernel)⟩
  intro md h
  simp only [md_TooMany, List.mem_cons, List.not_mem_nil, or_false] at h
  rcases h with rfl | rfl
  · exact kbn F 2 [] false (fun _ _ _ _ _ _ us ws h1 h2 => match us, ws, h1, h2 with | [_, _], [], _, _ => rfl)
  · exact kbn F 1 ["most"] false (fun _ _ _ _ _ _ us ws h1 h2 => match us, ws, h1, h2 with | [_], [_], _, _ => rfl)

abbrev si_Tied : Stmt := inCls (top 48) 0
abbrev tp_Tied : List (Str × Fl) := [("code", .s "Tied"), ("ties", .a 0)]
abbrev md_Tied : List (Nat × List Str × Bool) := [(1, [], false), (0, ["ties"], false)]
theorem sci_Tied : FnScope ["self", "ties"] ["self", "ties"] (defScope si_Tied) := ⟨rfl, rfl, rfl, by decide +kernel, rfl, by decide +kernel, by decide +kernel⟩
theorem mk_Tied (ev : Ev K mg) : MkX P w K mg base "Tied" 1 tp_Tied md_Tied := by
  have f : ExF K "Tied" ["code", "ties"] := exB_ok (b := .ae) (ev.exx (by decide +kernel : (("Tied" : Str), Bs.ae, (["code", "ties"] : List Str)) ∈ exL))
  obtain ⟨fd, F⟩ := ev.says.def_ DI_Tied rfl
  refine ⟨f.T, ⟨_, fd, ["self", "ties"], f.iC, f.tI, ok_init2 f.T rfl rfl (f.no _ (by simp)) (f.no _ (by simp)) F sci_Tied, ?_⟩, ev.glo "Tied", fun fs h => f.cls fs (by rw [h]; decide +kernel)⟩
  intro md h
  simp only [md_Tied, List.mem_cons, List.not_mem_nil, or_false] at h
  rcases h with rfl | rfl
  · exact kbn F 2 [] false (fun _ _ _ _ _ _ us ws h1 h2 => match us, ws, h1, h2 with | [_, _], [], _, _ => rfl)
  · exact kbn F 1 ["ties"] false (fun _ _ _ _ _ _ us ws h1 h2 => match us, ws, h1, h2 with | [_], [_], _, _ => rfl)

abbrev si_UnknownName : Stmt := inCls (top 50) 0
abbrev tp_UnknownName : List (Str × Fl) := [("code", .s "UnknownName"), ("name", .a 0)]
abbrev md_UnknownName : List (Nat × List Str × Bool) := [(1, [], false), (0, ["name"], false)]
theorem sci_UnknownName : FnScope ["self", "name"] ["self", "name"] (defScope si_UnknownName) := ⟨rfl, rfl, rfl, by decide +kernel, rfl, by decide +kernel, by decide +kernel⟩
theorem mk_UnknownName (ev : Ev K mg) : MkX P w K mg base "UnknownName" 1 tp_UnknownName md_UnknownName := by
  have f : ExF K "UnknownName" ["code", "name"] := exB_ok (b := .le) (ev.exx (by decide +kernel : (("UnknownName" : Str), Bs.le, (["code", "name"] : List Str)) ∈ exL))
  obtain ⟨fd, F⟩ := ev.says.def_ DI_UnknownName rfl
  refine ⟨f.T, ⟨_, fd, ["self", "name"], f.iC, f.tI, ok_init2 f.T rfl rfl (f.no _ (by simp)) (f.no _ (by simp)) F sci_UnknownName, ?_⟩, ev.glo "UnknownName", fun fs h => f.cls fs (by rw [h]; decide +kernel)⟩
  intro md h
  simp only [md_UnknownName, List.mem_cons, List.not_mem_nil, or_false] at h
  rcases h with rfl | rfl
  · exact kbn F 2 [] false (fun _ _ _ _ _ _ us ws h1 h2 => match us, ws, h1, h2 with | [_, _], [], _, _ => rfl)
  · exact kbn F 1 ["name"] false (fun _ _ _ _ _ _ us ws h1 h2 => match us, ws, h1, h2 with | [_], [_], _, _ => rfl)

abbrev si_UnknownStep : Stmt := inCls (top 51) 0
abbrev tp_UnknownStep : List (Str × Fl) := [("code", .s "UnknownStep"), ("at", .a 0)]
abbrev md_UnknownStep : List (Nat × List Str × Bool) := [(1, [], false), (0, ["at"], false)]
theorem sci_UnknownStep : FnScope ["self", "at"] ["self", "at"] (defScope si_UnknownStep) := ⟨rfl, rfl, rfl, by decide +kernel, rfl, by decide +kernel, by decide +kernel⟩
theorem mk_UnknownStep (ev : Ev K mg) : MkX P w K mg base "UnknownStep" 1 tp_UnknownStep md_UnknownStep := by
  have f : ExF K "UnknownStep" ["code", "at"] := exB_ok (b := .le) (ev.exx (by decide +kernel : (("UnknownStep" : Str), Bs.le, (["code", "at"] : List Str)) ∈ exL))
  obtain ⟨fd, F⟩ := ev.says.def_ DI_UnknownStep rfl
  refine ⟨f.T, ⟨_, fd, ["self", "at"], f.iC, f.tI, ok_init2 f.T rfl rfl (f.no _ (by simp)) (f.no _ (by simp)) F sci_UnknownStep, ?_⟩, ev.glo "UnknownStep", fun fs h => f.cls fs (by rw [h]; decide +kernel)⟩
  intro md h
  simp only [md_UnknownStep, List.mem_cons, List.not_mem_nil, or_false] at h
  rcases h with rfl | rfl
  · exact kbn F 2 [] false (fun _ _ _ _ _ _ us ws h1 h2 => match us, ws, h1, h2 with | [_, _], [], _, _ => rfl)
  · exact kbn F 1 ["at"] false (fun _ _ _ _ _ _ us ws h1 h2 => match us, ws, h1, h2 with | [_], [_], _, _ => rfl)

abbrev si_OrderTooLow : Stmt := inCls (top 7) 0
abbrev tp_OrderTooLow : List (Str × Fl) := [("code", .s "OrderTooLow"), ("wanted", .a 1), ("have", .a 0)]
abbrev md_OrderTooLow : List (Nat × List Str × Bool) := [(2, [], false), (0, ["have", "wanted"], false), (0, ["wanted", "have"], true), (1, ["wanted"], false)]
theorem sci_OrderTooLow : FnScope ["self", "have", "wanted"] ["self", "have", "wanted"] (defScope si_OrderTooLow) := ⟨rfl, rfl, rfl, by decide +kernel, rfl, by decide +kernel, by decide +kernel⟩
theorem mk_OrderTooLow (ev : Ev K mg) : MkX P w K mg base "OrderTooLow" 2 tp_OrderTooLow md_OrderTooLow := by
  have f : ExF K "OrderTooLow" ["code", "wanted", "have"] := exB_ok (b := .ve) (ev.exx (by decide +kernel : (("OrderTooLow" : Str), Bs.ve, (["code", "wanted", "have"] : List Str)) ∈ exL))
  obtain ⟨fd, F⟩ := ev.says.def_ DI_OrderTooLow rfl
  refine ⟨f.T, ⟨_, fd, ["self", "have", "wanted"], f.iC, f.tI, ok_init3 f.T rfl rfl rfl rfl (f.no _ (by simp)) (f.no _ (by simp)) (f.no _ (by simp)) F sci_OrderTooLow, ?_⟩, ev.glo "OrderTooLow", fun fs h => f.cls fs (by rw [h]; decide +kernel)⟩
  intro md h
  simp only [md_OrderTooLow, List.mem_cons, List.not_mem_nil, or_false] at h
  rcases h with rfl | rfl | rfl | rfl
  · exact kbn F 3 [] false (fun _ _ _ _ _ _ us ws h1 h2 => match us, ws, h1, h2 with | [_, _, _], [], _, _ => rfl)
  · exact kbn F 1 ["have", "wanted"] false (fun _ _ _ _ _ _ us ws h1 h2 => match us, ws, h1, h2 with | [_], [_, _], _, _ => rfl)
  · exact kbn F 1 ["wanted", "have"] true (fun _ _ _ _ _ _ us ws h1 h2 => match us, ws, h1, h2 with | [_], [_, _], _, _ => rfl)
  · exact kbn F 2 ["wanted"] false (fun _ _ _ _ _ _ us ws h1 h2 => match us, ws, h1, h2 with | [_, _], [_], _, _ => rfl)

abbrev si_UnlikeOrders : Stmt := inCls (top 8) 0
abbrev tp_UnlikeOrders : List (Str × Fl) := [("code", .s "UnlikeOrders"), ("other", .a 1), ("one", .a 0)]
abbrev md_UnlikeOrders : List (Nat × List Str × Bool) := [(2, [], false), (0, ["one", "other"], false), (0, ["other", "one"], true), (1, ["other"], false)]
theorem sci_UnlikeOrders : FnScope ["self", "one", "other"] ["self", "one", "other"] (defScope si_UnlikeOrders) := ⟨rfl, rfl, rfl, by decide +kernel, rfl, by decide +kernel, by decide +kernel⟩
theorem mk_UnlikeOrders (ev : Ev K mg) : MkX P w K mg base "UnlikeOrders" 2 tp_UnlikeOrders md_UnlikeOrders := by
  have f : ExF K "UnlikeOrders" ["code", "other", "one"] := exB_ok (b := .ve) (ev.exx (by decide +kernel : (("UnlikeOrders" : Str), Bs.ve, (["code", "other", "one"] : List Str)) ∈ exL))
  obtain ⟨fd, F⟩ := ev.says.def_ DI_UnlikeOrders rfl
  refine ⟨f.T, ⟨_, fd, ["self", "one", "other"], f.iC, f.tI, ok_init3 f.T rfl rfl rfl rfl (f.no _ (by simp)) (f.no _ (by simp)) (f.no _ (by simp)) F sci_UnlikeOrders, ?_⟩, ev.glo "UnlikeOrders", fun fs h => f.cls fs (by rw [h]; decide +kernel)⟩
  intro md h
  simp only [md_UnlikeOrders, List.mem_cons, List.not_mem_nil, or_false] at h
  rcases h with rfl | rfl | rfl | rfl
  · exact kbn F 3 [] false (fun _ _ _ _ _ _ us ws h1 h2 => match us, ws, h1, h2 with | [_, _, _], [], _, _ => rfl)
  · exact kbn F 1 ["one", "other"] false (fun _ _ _ _ _ _ us ws h1 h2 => match us, ws, h1, h2 with | [_], [_, _], _, _ => rfl)
  · exact kbn F 1 ["other", "one"] true (fun _ _ _ _ _ _ us ws h1 h2 => match us, ws, h1, h2 with | [_], [_, _], _, _ => rfl)
  · exact kbn F 2 ["other"] false (fun _ _ _ _ _ _ us ws h1 h2 => match us, ws, h1, h2 with | [_, _], [_], _, _ => rfl)

abbrev si_NotUnit : Stmt := inCls (top 18) 0
abbrev tp_NotUnit : List (Str × Fl) := [("code", .s "NotUnit"), ("place", .a 1), ("line", .a 0)]
abbrev md_NotUnit : List (Nat × List Str × Bool) := [(2, [], false), (0, ["line", "place"], false), (0, ["place", "line"], true), (1, ["place"], false)]
theorem sci_NotUnit : FnScope ["self", "line", "place"] ["self", "line", "place"] (defScope si_NotUnit) := ⟨rfl, rfl, rfl, by decide +kernel, rfl, by decide +kernel, by decide +kernel⟩
theorem mk_NotUnit (ev : Ev K mg) : MkX P w K mg base "NotUnit" 2 tp_NotUnit md_NotUnit := by
  have f : ExF K "NotUnit" ["code", "place", "line"] := exB_ok (b := .ve) (ev.exx (by decide +kernel : (("NotUnit" : Str), Bs.ve, (["code", "place", "line"] : List Str)) ∈ exL))
  obtain ⟨fd, F⟩ := ev.says.def_ DI_NotUnit rfl
  refine ⟨f.T, ⟨_, fd, ["self", "line", "place"], f.iC, f.tI, ok_init3 f.T rfl rfl rfl rfl (f.no _ (by simp)) (f.no _ (by simp)) (f.no _ (by simp)) F sci_NotUnit, ?_⟩, ev.glo "NotUnit", fun fs h => f.cls fs (by rw [h]; decide +kernel)⟩
  intro md h
  simp only [md_NotUnit, List.mem_cons, List.not_mem_nil, or_false] at h
  rcases h with rfl | rfl | rfl | rfl
  · exact kbn F 3 [] false (fun _ _ _ _ _ _ us ws h1 h2 => match us, ws, h1, h2 with | [_, _, _], [], _, _ => rfl)
  · exact kbn F 1 ["line", "place"] false (fun _ _ _ _ _ _ us ws h1 h2 => match us, ws, h1, h2 with | [_], [_, _], _, _ => rfl)
  · exact kbn F 1 ["place", "line"] true (fun _ _ _ _ _ _ us ws h1 h2 => match us, ws, h1, h2 with | [_], [_, _], _, _ => rfl)
  · exact kbn F 2 ["place"] false (fun _ _ _ _ _ _ us ws h1 h2 => match us, ws, h1, h2 with | [_, _], [_], _, _ => rfl)

abbrev si_NotATable : Stmt := inCls (top 19) 0
abbrev tp_NotATable : List (Str × Fl) := [("code", .s "NotATable"), ("place", .a 1), ("line", .a 0)]
abbrev md_NotATable : List (Nat × List Str × Bool) := [(2, [], false), (0, ["line", "place"], false), (0, ["place", "line"], true), (1, ["place"], false)]
theorem sci_NotATable : FnScope ["self", "line", "place"] ["self", "line", "place"] (defScope si_NotATable) := ⟨rfl, rfl, rfl, by decide +kernel, rfl, by decide +kernel, by decide +kernel⟩
theorem mk_NotATable (ev : Ev K mg) : MkX P w K mg base "NotATable" 2 tp_NotATable md_NotATable := by
  have f : ExF K "NotATable" ["code", "place", "line"] := exB_ok (b := .ve) (ev.exx (by decide +kernel : (("NotATable" : Str), Bs.ve, (["code", "place", "line"] : List Str)) ∈ exL))
  obtain ⟨fd, F⟩ := ev.says.def_ DI_NotATable rfl
  refine ⟨f.T, ⟨_, fd, ["self", "line", "place"], f.iC, f.tI, ok_init3 f.T rfl rfl rfl rfl (f.no _ (by simp)) (f.no _ (by simp)) (f.no _ (by simp)) F sci_NotATable, ?_⟩, ev.glo "NotATable", fun fs h => f.cls fs (by rw [h]; decide +kernel)⟩
  intro md h
  simp only [md_NotATable, List.mem_cons, List.not_mem_nil, or_false] at h
  rcases h with rfl | rfl | rfl | rfl
  · exact kbn F 3 [] false (fun _ _ _ _ _ _ us ws h1 h2 => match us, ws, h1, h2 with | [_, _, _], [], _, _ => rfl)
  · exact kbn F 1 ["line", "place"] false (fun _ _ _ _ _ _ us ws h1 h2 => match us, ws, h1, h2 with | [_], [_, _], _, _ => rfl)
  · exact kbn F 1 ["place", "line"] true (fun _ _ _ _ _ _ us ws h1 h2 => match us, ws, h1, h2 with | [_], [_, _], _, _ => rfl)
  · exact kbn F 2 ["place"] false (fun _ _ _ _ _ _ us ws h1 h2 => match us, ws, h1, h2 with | [_, _], [_], _, _ => rfl)

abbrev si_UnlikeFlats : Stmt := inCls (top 23) 0
abbrev tp_UnlikeFlats : List (Str × Fl) := [("code", .s "UnlikeFlats"), ("other", .a 1), ("one", .a 0)]
abbrev md_UnlikeFlats : List (Nat × List Str × Bool) := [(2, [], false), (0, ["one", "other"], false), (0, ["other", "one"], true), (1, ["other"], false)]
theorem sci_UnlikeFlats : FnScope ["self", "one", "other"] ["self", "one", "other"] (defScope si_UnlikeFlats) := ⟨rfl, rfl, rfl, by decide +kernel, rfl, by decide +kernel, by decide +kernel⟩
theorem mk_UnlikeFlats (ev : Ev K mg) : MkX P w K mg base "UnlikeFlats" 2 tp_UnlikeFlats md_UnlikeFlats := by
  have f : ExF K "UnlikeFlats" ["code", "other", "one"] := exB_ok (b := .ve) (ev.exx (by decide +kernel : (("UnlikeFlats" : Str), Bs.ve, (["code", "other", "one"] : List Str)) ∈ exL))
  obtain ⟨fd, F⟩ := ev.says.def_ DI_UnlikeFlats rfl
  refine ⟨f.T, ⟨_, fd, ["self", "one", "other"], f.iC, f.tI, ok_init3 f.T rfl rfl rfl rfl (f.no _ (by simp)) (f.no _ (by simp)) (f.no _ (by simp)) F sci_UnlikeFlats, ?_⟩, ev.glo "UnlikeFlats", fun fs h => f.cls fs (by rw [h]; decide +kernel)⟩
  intro md h
  simp only [md_UnlikeFlats, List.mem_cons, List.not_mem_nil, or_false] at h
  rcases h with rfl | rfl | rfl | rfl
  · exact kbn F 3 [] false (fun _ _ _ _ _ _ us ws h1 h2 => match us, ws, h1, h2 with | [_, _, _], [], _, _ => rfl)
  · exact kbn F 1 ["one", "other"] false (fun _ _ _ _ _ _ us ws h1 h2 => match us, ws, h1, h2 with | [_], [_, _], _, _ => rfl)
  · exact kbn F 1 ["other", "one"] true (fun _ _ _ _ _ _ us ws h1 h2 => match us, ws, h1, h2 with | [_], [_, _], _, _ => rfl)
  · exact kbn F 2 ["other"] false (fun _ _ _ _ _ _ us ws h1 h2 => match us, ws, h1, h2 with | [_, _], [_], _, _ => rfl)

abbrev si_NotSquare : Stmt := inCls (top 49) 0
abbrev tp_NotSquare : List (Str × Fl) := [("code", .s "NotSquare"), ("unknowns", .a 1), ("equations", .a 0)]
abbrev md_NotSquare : List (Nat × List Str × Bool) := [(2, [], false), (0, ["equations", "unknowns"], false), (0, ["unknowns", "equations"], true), (1, ["unknowns"], false)]
theorem sci_NotSquare : FnScope ["self", "equations", "unknowns"] ["self", "equations", "unknowns"] (defScope si_NotSquare) := ⟨rfl, rfl, rfl, by decide +kernel, rfl, by decide +kernel, by decide +kernel⟩
theorem mk_NotSquare (ev : Ev K mg) : MkX P w K mg base "NotSquare" 2 tp_NotSquare md_NotSquare := by
  have f : ExF K "NotSquare" ["code", "unknowns", "equations"] := exB_ok (b := .ae) (ev.exx (by decide +kernel : (("NotSquare" : Str), Bs.ae, (["code", "unknowns", "equations"] : List Str)) ∈ exL))
  obtain ⟨fd, F⟩ := ev.says.def_ DI_NotSquare rfl
  refine ⟨f.T, ⟨_, fd, ["self", "equations", "unknowns"], f.iC, f.tI, ok_init3 f.T rfl rfl rfl rfl (f.no _ (by simp)) (f.no _ (by simp)) (f.no _ (by simp)) F sci_NotSquare, ?_⟩, ev.glo "NotSquare", fun fs h => f.cls fs (by rw [h]; decide +kernel)⟩
  intro md h
  simp only [md_NotSquare, List.mem_cons, List.not_mem_nil, or_false] at h
  rcases h with rfl | rfl | rfl | rfl
  · exact kbn F 3 [] false (fun _ _ _ _ _ _ us ws h1 h2 => match us, ws, h1, h2 with | [_, _, _], [], _, _ => rfl)
  · exact kbn F 1 ["equations", "unknowns"] false (fun _ _ _ _ _ _ us ws h1 h2 => match us, ws, h1, h2 with | [_], [_, _], _, _ => rfl)
  · exact kbn F 1 ["unknowns", "equations"] true (fun _ _ _ _ _ _ us ws h1 h2 => match us, ws, h1, h2 with | [_], [_, _], _, _ => rfl)
  · exact kbn F 2 ["unknowns"] false (fun _ _ _ _ _ _ us ws h1 h2 => match us, ws, h1, h2 with | [_, _], [_], _, _ => rfl)

abbrev si_CantTurn : Stmt := inCls (top 14) 0
abbrev tp_CantTurn : List (Str × Fl) := [("code", .s "CantTurn")]
abbrev md_CantTurn : List (Nat × List Str × Bool) := [(0, [], false)]
theorem sci_CantTurn : FnScope ["self"] ["self"] (defScope si_CantTurn) := ⟨rfl, rfl, rfl, by decide +kernel, rfl, by decide +kernel, by decide +kernel⟩
theorem mk_CantTurn (ev : Ev K mg) : MkX P w K mg base "CantTurn" 0 tp_CantTurn md_CantTurn := by
  have f : ExF K "CantTurn" ["code"] := exB_ok (b := .ve) (ev.exx (by decide +kernel : (("CantTurn" : Str), Bs.ve, (["code"] : List Str)) ∈ exL))
  obtain ⟨fd, F⟩ := ev.says.def_ DI_CantTurn rfl
  refine ⟨f.T, ⟨_, fd, ["self"], f.iC, f.tI, ok_init1 f.T (f.no _ (by simp)) F sci_CantTurn, ?_⟩, ev.glo "CantTurn", fun fs h => f.cls fs (by rw [h]; decide +kernel)⟩
  intro md h
  simp only [md_CantTurn, List.mem_cons, List.not_mem_nil, or_false] at h
  subst h
  exact kbn F 1 [] false (fun _ _ _ _ _ _ us ws h1 h2 => match us, ws, h1, h2 with | [_], [], _, _ => rfl)

abbrev si_DividedByZero : Stmt := inCls (top 47) 0
abbrev tp_DividedByZero : List (Str × Fl) := [("code", .s "DividedByZero")]
abbrev md_DividedByZero : List (Nat × List Str × Bool) := [(0, [], false)]
theorem sci_DividedByZero : FnScope ["self"] ["self"] (defScope si_DividedByZero) := ⟨rfl, rfl, rfl, by decide +kernel, rfl, by decide +kernel, by decide +kernel⟩
theorem mk_DividedByZero (ev : Ev K mg) : MkX P w K mg base "DividedByZero" 0 tp_DividedByZero md_DividedByZero := by
  have f : ExF K "DividedByZero" ["code"] := exB_ok (b := .ae) (ev.exx (by decide +kernel : (("DividedByZero" : Str), Bs.ae, (["code"] : List Str)) ∈ exL))
  obtain ⟨fd, F⟩ := ev.says.def_ DI_DividedByZero rfl
  refine ⟨f.T, ⟨_, fd, ["self"], f.iC, f.tI, ok_init1 f.T (f.no _ (by simp)) F sci_DividedByZero, ?_⟩, ev.glo "DividedByZero", fun fs h => f.cls fs (by rw [h]; decide +kernel)⟩
  intro md h
  simp only [md_DividedByZero, List.mem_cons, List.not_mem_nil, or_false] at h
  subst h
  exact kbn F 1 [] false (fun _ _ _ _ _ _ us ws h1 h2 => match us, ws, h1, h2 with | [_], [], _, _ => rfl)

abbrev si_NotAClock : Stmt := inCls (top 22) 0
abbrev tp_NotAClock : List (Str × Fl) := [("code", .s "NotAClock")]
abbrev md_NotAClock : List (Nat × List Str × Bool) := [(0, [], false)]
theorem sci_NotAClock : FnScope ["self"] ["self"] (defScope si_NotAClock) := ⟨rfl, rfl, rfl, by decide +kernel, rfl, by decide +kernel, by decide +kernel⟩
theorem mk_NotAClock (ev : Ev K mg) : MkX P w K mg base "NotAClock" 0 tp_NotAClock md_NotAClock := by
  have f : ExF K "NotAClock" ["code"] := exB_ok (b := .ve) (ev.exx (by decide +kernel : (("NotAClock" : Str), Bs.ve, (["code"] : List Str)) ∈ exL))
  obtain ⟨fd, F⟩ := ev.says.def_ DI_NotAClock rfl
  refine ⟨f.T, ⟨_, fd, ["self"], f.iC, f.tI, ok_init1 f.T (f.no _ (by simp)) F sci_NotAClock, ?_⟩, ev.glo "NotAClock", fun fs h => f.cls fs (by rw [h]; decide +kernel)⟩
  intro md h
  simp only [md_NotAClock, List.mem_cons, List.not_mem_nil, or_false] at h
  subst h
  exact kbn F 1 [] false (fun _ _ _ _ _ _ us ws h1 h2 => match us, ws, h1, h2 with | [_], [], _, _ => rfl)

abbrev si_NoFlips : Stmt := inCls (top 29) 0
abbrev tp_NoFlips : List (Str × Fl) := [("code", .s "NoFlips")]
abbrev md_NoFlips : List (Nat × List Str × Bool) := [(0, [], false)]
theorem sci_NoFlips : FnScope ["self"] ["self"] (defScope si_NoFlips) := ⟨rfl, rfl, rfl, by decide +kernel, rfl, by decide +kernel, by decide +kernel⟩
theorem mk_NoFlips (ev : Ev K mg) : MkX P w K mg base "NoFlips" 0 tp_NoFlips md_NoFlips := by
  have f : ExF K "NoFlips" ["code"] := exB_ok (b := .ve) (ev.exx (by decide +kernel : (("NoFlips" : Str), Bs.ve, (["code"] : List Str)) ∈ exL))
  obtain ⟨fd, F⟩ := ev.says.def_ DI_NoFlips rfl
  refine ⟨f.T, ⟨_, fd, ["self"], f.iC, f.tI, ok_init1 f.T (f.no _ (by simp)) F sci_NoFlips, ?_⟩, ev.glo "NoFlips", fun fs h => f.cls fs (by rw [h]; decide +kernel)⟩
  intro md h
  simp only [md_NoFlips, List.mem_cons, List.not_mem_nil, or_false] at h
  subst h
  exact kbn F 1 [] false (fun _ _ _ _ _ _ us ws h1 h2 => match us, ws, h1, h2 with | [_], [], _, _ => rfl)

abbrev si_InCrew : Stmt := inCls (top 35) 0
abbrev tp_InCrew : List (Str × Fl) := [("code", .s "InCrew")]
abbrev md_InCrew : List (Nat × List Str × Bool) := [(0, [], false)]
theorem sci_InCrew : FnScope ["self"] ["self"] (defScope si_InCrew) := ⟨rfl, rfl, rfl, by decide +kernel, rfl, by decide +kernel, by decide +kernel⟩
theorem mk_InCrew (ev : Ev K mg) : MkX P w K mg base "InCrew" 0 tp_InCrew md_InCrew := by
  have f : ExF K "InCrew" ["code"] := exB_ok (b := .ve) (ev.exx (by decide +kernel : (("InCrew" : Str), Bs.ve, (["code"] : List Str)) ∈ exL))
  obtain ⟨fd, F⟩ := ev.says.def_ DI_InCrew rfl
  refine ⟨f.T, ⟨_, fd, ["self"], f.iC, f.tI, ok_init1 f.T (f.no _ (by simp)) F sci_InCrew, ?_⟩, ev.glo "InCrew", fun fs h => f.cls fs (by rw [h]; decide +kernel)⟩
  intro md h
  simp only [md_InCrew, List.mem_cons, List.not_mem_nil, or_false] at h
  subst h
  exact kbn F 1 [] false (fun _ _ _ _ _ _ us ws h1 h2 => match us, ws, h1, h2 with | [_], [], _, _ => rfl)

abbrev si_NotOpen : Stmt := inCls (top 40) 0
abbrev tp_NotOpen : List (Str × Fl) := [("code", .s "NotOpen")]
abbrev md_NotOpen : List (Nat × List Str × Bool) := [(0, [], false)]
theorem sci_NotOpen : FnScope ["self"] ["self"] (defScope si_NotOpen) := ⟨rfl, rfl, rfl, by decide +kernel, rfl, by decide +kernel, by decide +kernel⟩
theorem mk_NotOpen (ev : Ev K mg) : MkX P w K mg base "NotOpen" 0 tp_NotOpen md_NotOpen := by
  have f : ExF K "NotOpen" ["code"] := exB_ok (b := .ve) (ev.exx (by decide +kernel : (("NotOpen" : Str), Bs.ve, (["code"] : List Str)) ∈ exL))
  obtain ⟨fd, F⟩ := ev.says.def_ DI_NotOpen rfl
  refine ⟨f.T, ⟨_, fd, ["self"], f.iC, f.tI, ok_init1 f.T (f.no _ (by simp)) F sci_NotOpen, ?_⟩, ev.glo "NotOpen", fun fs h => f.cls fs (by rw [h]; decide +kernel)⟩
  intro md h
  simp only [md_NotOpen, List.mem_cons, List.not_mem_nil, or_false] at h
  subst h
  exact kbn F 1 [] false (fun _ _ _ _ _ _ us ws h1 h2 => match us, ws, h1, h2 with | [_], [], _, _ => rfl)

abbrev si_InvalidStep : Stmt := inCls (top 41) 0
abbrev tp_InvalidStep : List (Str × Fl) := [("code", .s "InvalidStep")]
abbrev md_InvalidStep : List (Nat × List Str × Bool) := [(0, [], false)]
theorem sci_InvalidStep : FnScope ["self"] ["self"] (defScope si_InvalidStep) := ⟨rfl, rfl, rfl, by decide +kernel, rfl, by decide +kernel, by decide +kernel⟩
theorem mk_InvalidStep (ev : Ev K mg) : MkX P w K mg base "InvalidStep" 0 tp_InvalidStep md_InvalidStep := by
  have f : ExF K "InvalidStep" ["code"] := exB_ok (b := .ve) (ev.exx (by decide +kernel : (("InvalidStep" : Str), Bs.ve, (["code"] : List Str)) ∈ exL))
  obtain ⟨fd, F⟩ := ev.says.def_ DI_InvalidStep rfl
  refine ⟨f.T, ⟨_, fd, ["self"], f.iC, f.tI, ok_init1 f.T (f.no _ (by simp)) F sci_InvalidStep, ?_⟩, ev.glo "InvalidStep", fun fs h => f.cls fs (by rw [h]; decide +kernel)⟩
  intro md h
  simp only [md_InvalidStep, List.mem_cons, List.not_mem_nil, or_false] at h
  subst h
  exact kbn F 1 [] false (fun _ _ _ _ _ _ us ws h1 h2 => match us, ws, h1, h2 with | [_], [], _, _ => rfl)

abbrev si_Solved : Stmt := inCls (top 46) 0
abbrev tp_Solved : List (Str × Fl) := [("code", .s "Solved")]
abbrev md_Solved : List (Nat × List Str × Bool) := [(0, [], false)]
theorem sci_Solved : FnScope ["self"] ["self"] (defScope si_Solved) := ⟨rfl, rfl, rfl, by decide +kernel, rfl, by decide +kernel, by decide +kernel⟩
theorem mk_Solved (ev : Ev K mg) : MkX P w K mg base "Solved" 0 tp_Solved md_Solved := by
  have f : ExF K "Solved" ["code"] := exB_ok (b := .ve) (ev.exx (by decide +kernel : (("Solved" : Str), Bs.ve, (["code"] : List Str)) ∈ exL))
  obtain ⟨fd, F⟩ := ev.says.def_ DI_Solved rfl
  refine ⟨f.T, ⟨_, fd, ["self"], f.iC, f.tI, ok_init1 f.T (f.no _ (by simp)) F sci_Solved, ?_⟩, ev.glo "Solved", fun fs h => f.cls fs (by rw [h]; decide +kernel)⟩
  intro md h
  simp only [md_Solved, List.mem_cons, List.not_mem_nil, or_false] at h
  subst h
  exact kbn F 1 [] false (fun _ _ _ _ _ _ us ws h1 h2 => match us, ws, h1, h2 with | [_], [], _, _ => rfl)

abbrev si_NothingLeft : Stmt := inCls (top 52) 0
abbrev tp_NothingLeft : List (Str × Fl) := [("code", .s "NothingLeft")]
abbrev md_NothingLeft : List (Nat × List Str × Bool) := [(0, [], false)]
theorem sci_NothingLeft : FnScope ["self"] ["self"] (defScope si_NothingLeft) := ⟨rfl, rfl, rfl, by decide +kernel, rfl, by decide +kernel, by decide +kernel⟩
theorem mk_NothingLeft (ev : Ev K mg) : MkX P w K mg base "NothingLeft" 0 tp_NothingLeft md_NothingLeft := by
  have f : ExF K "NothingLeft" ["code"] := exB_ok (b := .ie) (ev.exx (by decide +kernel : (("NothingLeft" : Str), Bs.ie, (["code"] : List Str)) ∈ exL))
  obtain ⟨fd, F⟩ := ev.says.def_ DI_NothingLeft rfl
  refine ⟨f.T, ⟨_, fd, ["self"], f.iC, f.tI, ok_init1 f.T (f.no _ (by simp)) F sci_NothingLeft, ?_⟩, ev.glo "NothingLeft", fun fs h => f.cls fs (by rw [h]; decide +kernel)⟩
  intro md h
  simp only [md_NothingLeft, List.mem_cons, List.not_mem_nil, or_false] at h
  subst h
  exact kbn F 1 [] false (fun _ _ _ _ _ _ us ws h1 h2 => match us, ws, h1, h2 with | [_], [], _, _ => rfl)

abbrev N__law_bag : List Str := ["_law_script", "_law_seed", "_law_item"]
abbrev st__law_bag : Stmt := top 54
theorem sc__law_bag : FnScope N__law_bag ["_law_script"] (defScope st__law_bag) := ⟨rfl, rfl, rfl, by decide +kernel, rfl, by decide +kernel, by decide +kernel⟩
def m__law_bag : Sm := (sSeq (sSet 1 (eC (.int 13960))) (sSeq (sFor (iVal (eSl false (eVar 0) pNone (pSome (eC (.int 63))))) (gN 2) (sSet 1 (eBin modI (eCB intD (aCons (eBin addD (eBin addD (eBin mulI (eVar 1) (eC (.int 48271))) (eBin modI (eCB intD (aCons (eVar 2) aNil)) (eC (.int 2147483587)))) (eC (.int 307))) aNil)) (eC (.int 2147483629))))) (sRet (eLst true (aCons (eCB (listD false) (aCons (eSl false (eVar 0) pNone (pSome (eC (.int 63)))) aNil)) (aCons (eC (.int 0)) (aCons (eC (.int 0)) (aCons (eVar 1) (aCons (eC (.int 0)) aNil)))))))))
def f__law_bag : List D → Sto → Res D := chk 1 (runDef 3 m__law_bag)
theorem ok__law_bag (ev : Ev K mg) : Fn P w K mg base "_law_bag" 1 1 f__law_bag := by
  obtain ⟨fd, F⟩ := ev.says.def_ D__law_bag rfl
  refine fn_name (x := "_law_bag") (N := N__law_bag) (ps := ["_law_script"]) F sc__law_bag (ev.glo "_law_bag") (F.bindsN fun _ _ _ _ _ _ us hl => match us, hl with | [_], _ => rfl) fun cdv A outer s H E hr => ?_
  exact (sss_cons (ss_set sc__law_bag.nd (i := 1) rfl (by first | exact Or.inl rfl | exact Or.inr rfl) se_int) (sss_cons (ss_for cx_own rfl (si_val (se_sl (k := false) (se_var (pv 0)) sp_none (sp_some se_int))) (sg_name (i := 2) sc__law_bag.nd rfl (by first | exact Or.inl rfl | exact Or.inr rfl)) (sss_one (ss_set sc__law_bag.nd (i := 1) rfl (by first | exact Or.inl rfl | exact Or.inr rfl) (se_mod (se_cty call_int1 gc_int (ev.free "int") (sa_cons (se_add (se_add (se_mul (se_var (pv 1)) se_int) (se_mod (se_cty call_int1 gc_int (ev.free "int") (sa_cons (se_var (pv 2)) sa_nil)) se_int)) se_int) sa_nil)) se_int)))) (sss_one (ss_ret (se_lst (k := true) (sa_cons (se_cty call_list_of (gc_list (k := false)) (ev.free "list") (sa_cons (se_sl (k := false) (se_var (pv 0)) sp_none (sp_some se_int)) sa_nil)) (sa_cons se_int (sa_cons se_int (sa_cons (se_var (pv 1)) (sa_cons se_int sa_nil))))))))))
abbrev N__law_draw : List Str := ["_law_bag_here", "_law_limit", "_law_item", "_law_digit"]
abbrev st__law_draw : Stmt := top 55
theorem sc__law_draw : FnScope N__law_draw ["_law_bag_here", "_law_limit"] (defScope st__law_draw) := ⟨rfl, rfl, rfl, by decide +kernel, rfl, by decide +kernel, by decide +kernel⟩
def m__law_draw : Sm := (sSeq (sSetIx (eBin addD (eBin ixD (eVar 0) (eC (.int 4))) (eC (.int 1))) (eVar 0) (eC (.int 4))) (sSeq (sIf (tAnd (tOf (eBin eqD (eBin ixD (eVar 0) (eC (.int 2))) (eC (.int 0)))) (tOf (eBin ltI (eBin ixD (eVar 0) (eC (.int 1))) (eCB lenD (aCons (eBin ixD (eVar 0) (eC (.int 0))) aNil))))) (sSeq (sSet 2 (eBin ixD (eBin ixD (eVar 0) (eC (.int 0))) (eBin ixD (eVar 0) (eC (.int 1))))) (sSeq (sSetIx (eBin addD (eBin ixD (eVar 0) (eC (.int 1))) (eC (.int 1))) (eVar 0) (eC (.int 1))) (sIf (tOf (eBin geI (eVar 2) (eBin powI (eC (.int 10)) (eC (.int 18))))) (sSetIx (eVar 2) (eVar 0) (eC (.int 2))) (sSetIx (eBin modI (eCB intD (aCons (eBin addD (eBin addD (eBin mulI (eBin ixD (eVar 0) (eC (.int 3))) (eC (.int 69621))) (eBin mulI (eBin modI (eCB intD (aCons (eVar 2) aNil)) (eC (.int 2147483549))) (eC (.int 30103)))) (eC (.int 89))) aNil)) (eC (.int 2147483629))) (eVar 0) (eC (.int 3)))))) sNil) (sSeq (sIf (tOf (eBin gtI (eBin ixD (eVar 0) (eC (.int 2))) (eC (.int 0)))) (sSeq (sSet 3 (eBin modI (eCB intD (aCons (eBin ixD (eVar 0) (eC (.int 2))) aNil)) (eVar 1))) (sSeq (sSetIx (eBin fdivI (eBin ixD (eVar 0) (eC (.int 2))) (eVar 1)) (eVar 0) (eC (.int 2))) (sRet (eVar 3)))) sNil) (sSeq (sSetIx (eBin modI (eCB intD (aCons (eBin addD (eBin addD (eBin powI (eBin ixD (eVar 0) (eC (.int 3))) (eC (.int 3))) (eBin mulI (eBin ixD (eVar 0) (eC (.int 4))) (eC (.int 1299709)))) (eC (.int 60013))) aNil)) (eC (.int 2147483629))) (eVar 0) (eC (.int 3))) (sRet (eBin modI (eCB intD (aCons (eBin addD (eBin fdivI (eBin ixD (eVar 0) (eC (.int 3))) (eC (.int 97))) (eBin mulI (eBin modI (eCB intD (aCons (eBin ixD (eVar 0) (eC (.int 3))) aNil)) (eC (.int 7901))) (eC (.int 67)))) aNil)) (eVar 1)))))))
def f__law_draw : List D → Sto → Res D := chk 2 (runDef 4 m__law_draw)
theorem ok__law_draw (ev : Ev K mg) : Fn P w K mg base "_law_draw" 1 2 f__law_draw := by
  obtain ⟨fd, F⟩ := ev.says.def_ D__law_draw rfl
  refine fn_name (x := "_law_draw") (N := N__law_draw) (ps := ["_law_bag_here", "_law_limit"]) F sc__law_draw (ev.glo "_law_draw") (F.bindsN fun _ _ _ _ _ _ us hl => match us, hl with | [_, _], _ => rfl) fun cdv A outer s H E hr => ?_
  exact (sss_cons (ss_setix (se_add (se_ix (se_var (pv 0)) se_int) se_int) (se_var (pv 0)) se_int) (sss_cons (ss_if (st_sw (sw_and (st_eq hr (se_ix (se_var (pv 0)) se_int) se_int) (sw_and1 (st_lt (se_ix (se_var (pv 0)) se_int) (se_cb call_len gc_len (ev.free "len") (sa_cons (se_ix (se_var (pv 0)) se_int) sa_nil)))))) (sss_cons (ss_set sc__law_draw.nd (i := 2) rfl (by first | exact Or.inl rfl | exact Or.inr rfl) (se_ix (se_ix (se_var (pv 0)) se_int) (se_ix (se_var (pv 0)) se_int))) (sss_cons (ss_setix (se_add (se_ix (se_var (pv 0)) se_int) se_int) (se_var (pv 0)) se_int) (sss_one (ss_if (st_ge (se_var (pv 2)) (se_pow se_int se_int)) (sss_one (ss_setix (se_var (pv 2)) (se_var (pv 0)) se_int)) (sss_one (ss_setix (se_mod (se_cty call_int1 gc_int (ev.free "int") (sa_cons (se_add (se_add (se_mul (se_ix (se_var (pv 0)) se_int) se_int) (se_mul (se_mod (se_cty call_int1 gc_int (ev.free "int") (sa_cons (se_var (pv 2)) sa_nil)) se_int) se_int)) se_int) sa_nil)) se_int) (se_var (pv 0)) se_int)))))) sss_nil) (sss_cons (ss_if (st_gt (se_ix (se_var (pv 0)) se_int) se_int) (sss_cons (ss_set sc__law_draw.nd (i := 3) rfl (by first | exact Or.inl rfl | exact Or.inr rfl) (se_mod (se_cty call_int1 gc_int (ev.free "int") (sa_cons (se_ix (se_var (pv 0)) se_int) sa_nil)) (se_var (pv 1)))) (sss_cons (ss_setix (se_fdiv (se_ix (se_var (pv 0)) se_int) (se_var (pv 1))) (se_var (pv 0)) se_int) (sss_one (ss_ret (se_var (pv 3)))))) sss_nil) (sss_cons (ss_setix (se_mod (se_cty call_int1 gc_int (ev.free "int") (sa_cons (se_add (se_add (se_pow (se_ix (se_var (pv 0)) se_int) se_int) (se_mul (se_ix (se_var (pv 0)) se_int) se_int)) se_int) sa_nil)) se_int) (se_var (pv 0)) se_int) (sss_one (ss_ret (se_mod (se_cty call_int1 gc_int (ev.free "int") (sa_cons (se_add (se_fdiv (se_ix (se_var (pv 0)) se_int) se_int) (se_mul (se_mod (se_cty call_int1 gc_int (ev.free "int") (sa_cons (se_ix (se_var (pv 0)) se_int) sa_nil)) se_int) se_int)) sa_nil)) (se_var (pv 1)))))))))
abbrev N__law_of : List Str := ["_law_bag_here", "_law_things"]
abbrev st__law_of : Stmt := top 56
theorem sc__law_of : FnScope N__law_of ["_law_bag_here", "_law_things"] (defScope st__law_of) := ⟨rfl, rfl, rfl, by decide +kernel, rfl, by decide +kernel, by decide +kernel⟩
def m__law_of : Sm := (sRet (eBin ixD (eVar 1) (eCall f__law_draw (aCons (eVar 0) (aCons (eCB lenD (aCons (eVar 1) aNil)) aNil)) [])))
def f__law_of : List D → Sto → Res D := chk 2 (runDef 2 m__law_of)
theorem ok__law_of (ev : Ev K mg) : Fn P w K mg base "_law_of" 2 2 f__law_of := by
  obtain ⟨fd, F⟩ := ev.says.def_ D__law_of rfl
  refine fn_name (x := "_law_of") (N := N__law_of) (ps := ["_law_bag_here", "_law_things"]) F sc__law_of (ev.glo "_law_of") (F.bindsN fun _ _ _ _ _ _ us hl => match us, hl with | [_, _], _ => rfl) fun cdv A outer s H E hr => ?_
  exact (sss_one (ss_ret (se_ix (se_var (pv 1)) (se_fn (ok__law_draw ev) hr (by omega) cx_takes (sa_cons (se_var (pv 0)) (sa_cons (se_cb call_len gc_len (ev.free "len") (sa_cons (se_var (pv 1)) sa_nil)) sa_nil))))))
abbrev N__law_like : List Str := ["_law_told_here", "_law_due_here", "_law_a", "_law_b"]
abbrev st__law_like : Stmt := top 57
theorem sc__law_like : FnScope N__law_like ["_law_told_here", "_law_due_here"] (defScope st__law_like) := ⟨rfl, rfl, rfl, by decide +kernel, rfl, by decide +kernel, by decide +kernel⟩
def m__law_like : Nat → Sm
  | 0 => mBad
  | n + 1 => (sSeq (sIf (tOf (eUn (isiD (isB2 "list" "tuple" [])) (eVar 1))) (sSeq (sIf (tOr (tOf (eBin neD (eUn (isiD (isB "list" [])) (eVar 0)) (eUn (isiD (isB "list" [])) (eVar 1)))) (tOf (eBin neD (eUn (isiD (isB "tuple" [])) (eVar 0)) (eUn (isiD (isB "tuple" [])) (eVar 1))))) (sRet (eC (.bl false))) sNil) (sRet (eAnd (eBin eqD (eCB lenD (aCons (eVar 0) aNil)) (eCB lenD (aCons (eVar 1) aNil))) (eCB allD (aCons (eComp false [2, 3] (iZipM (aCons (eVar 0) (aCons (eVar 1) aNil))) (gT 2 (gsCons (gN 2) (gsCons (gN 3) gsNil))) tTrue (eCall (chk 2 (runDef 4 (m__law_like n))) (aCons (eVar 2) (aCons (eVar 3) aNil)) [])) aNil))))) sNil) (sSeq (sIf (tOr (tOf (eBin isN (eVar 1) (eC .non))) (tOf (eBin isN (eVar 0) (eC .non)))) (sRet (eAnd (eBin isN (eVar 1) (eC .non)) (eBin isN (eVar 0) (eC .non)))) sNil) (sSeq (sIf (tOr (tOf (eUn (isiD (isB2 "list" "tuple" [])) (eVar 0))) (tOf (eBin neD (eUn (isiD (isB "bool" [])) (eVar 0)) (eUn (isiD (isB "bool" [])) (eVar 1))))) (sRet (eC (.bl false))) sNil) (sSeq (sIf (tOr (tOf (eBin neD (eUn (isiD (isB "str" [])) (eVar 0)) (eUn (isiD (isB "str" [])) (eVar 1)))) (tOf (eBin neD (eUn (isiD (isB "int" [])) (eVar 0)) (eUn (isiD (isB "int" [])) (eVar 1))))) (sRet (eC (.bl false))) sNil) (sRet (eBin eqD (eVar 0) (eVar 1)))))))
def f__law_like (n : Nat) : List D → Sto → Res D := chk 2 (runDef 4 (m__law_like n))
theorem ok__law_like (ev : Ev K mg) (n : Nat) : Fn P w K mg base "_law_like" (1 + n) 2 (f__law_like n) := by
  induction n with
  | zero =>
    obtain ⟨fd, F⟩ := ev.says.def_ D__law_like rfl
    refine fn_name (k := 0) (m := mBad) (x := "_law_like") (N := N__law_like) (ps := ["_law_told_here", "_law_due_here"]) F sc__law_like (ev.glo "_law_like") (F.bindsN fun _ _ _ _ _ _ us hl => match us, hl with | [_, _], _ => rfl) fun cdv A outer s H E hr => ?_
    exact sss_bad ⟨_, pss_bad⟩
  | succ n IH =>
    obtain ⟨fd, F⟩ := ev.says.def_ D__law_like rfl
    refine fn_name (k := 1 + n) (x := "_law_like") (N := N__law_like) (ps := ["_law_told_here", "_law_due_here"]) F sc__law_like (ev.glo "_law_like") (F.bindsN fun _ _ _ _ _ _ us hl => match us, hl with | [_, _], _ => rfl) fun cdv A outer s H E hr => ?_
    exact (sss_cons (ss_if (st_val (se_isi2 (ev.free "isinstance") (se_var (pv 1)) (cls_ty (ev.free "list")) (cls_ty (ev.free "tuple")) (isB2_ok (by decide) (by decide) ev.nocs ev.nocs))) (sss_cons (ss_if (st_sw (sw_or (st_ne hr (se_isi (ev.free "isinstance") (se_var (pv 0)) (cls_ty (ev.free "list")) (isB_ok (by decide) ev.nocs)) (se_isi (ev.free "isinstance") (se_var (pv 1)) (cls_ty (ev.free "list")) (isB_ok (by decide) ev.nocs))) (sw_or1 (st_ne hr (se_isi (ev.free "isinstance") (se_var (pv 0)) (cls_ty (ev.free "tuple")) (isB_ok (by decide) ev.nocs)) (se_isi (ev.free "isinstance") (se_var (pv 1)) (cls_ty (ev.free "tuple")) (isB_ok (by decide) ev.nocs)))))) (sss_one (ss_ret se_bl)) sss_nil) (sss_one (ss_ret (se_and (se_eq hr (se_cb call_len gc_len (ev.free "len") (sa_cons (se_var (pv 0)) sa_nil)) (se_cb call_len gc_len (ev.free "len") (sa_cons (se_var (pv 1)) sa_nil))) (se_one (se_cb (cr_all rfl) gc_all (ev.free "all") (sa_cons (se_comp (k := false) (own := [("_law_a", 2), ("_law_b", 3)]) rfl sc__law_like.nd (si_zip (ev.free "zip") (sa_cons (se_var (pv 0)) (sa_cons (se_var (pv 1)) sa_nil))) (blkOk_by (N := N__law_like) (sc := defScope st__law_like) (own := [("_law_a", 2), ("_law_b", 3)]) (by decide +kernel)) (fun _ _ _ _ _ => (pg_tup rfl (pgs_cons (pg_name (i := 2) sc__law_like.nd rfl (Or.inl rfl)) (pgs_cons (pg_name (i := 3) sc__law_like.nd rfl (Or.inl rfl)) pgs_nil)))) (grel_tup (grels_cons (grel_name (i := 2) (by decide)) (grels_cons (grel_name (i := 3) (by decide)) grels_nil))) (fun _ _ _ _ _ => (se_fn IH hr (by omega) takes0 (sa_cons (se_var (pv 2)) (sa_cons (se_var (pv 3)) sa_nil))))) sa_nil))))))) sss_nil) (sss_cons (ss_if (st_sw (sw_or (st_isN (se_var (pv 1)) se_non) (sw_or1 (st_isN (se_var (pv 0)) se_non)))) (sss_one (ss_ret (se_and (se_isN (se_var (pv 1)) se_non) (se_one (se_isN (se_var (pv 0)) se_non))))) sss_nil) (sss_cons (ss_if (st_sw (sw_or (st_val (se_isi2 (ev.free "isinstance") (se_var (pv 0)) (cls_ty (ev.free "list")) (cls_ty (ev.free "tuple")) (isB2_ok (by decide) (by decide) ev.nocs ev.nocs))) (sw_or1 (st_ne hr (se_isi (ev.free "isinstance") (se_var (pv 0)) (cls_ty (ev.free "bool")) (isB_ok (by decide) ev.nocs)) (se_isi (ev.free "isinstance") (se_var (pv 1)) (cls_ty (ev.free "bool")) (isB_ok (by decide) ev.nocs)))))) (sss_one (ss_ret se_bl)) sss_nil) (sss_cons (ss_if (st_sw (sw_or (st_ne hr (se_isi (ev.free "isinstance") (se_var (pv 0)) (cls_ty (ev.free "str")) (isB_ok (by decide) ev.nocs)) (se_isi (ev.free "isinstance") (se_var (pv 1)) (cls_ty (ev.free "str")) (isB_ok (by decide) ev.nocs))) (sw_or1 (st_ne hr (se_isi (ev.free "isinstance") (se_var (pv 0)) (cls_ty (ev.free "int")) (isB_ok (by decide) ev.nocs)) (se_isi (ev.free "isinstance") (se_var (pv 1)) (cls_ty (ev.free "int")) (isB_ok (by decide) ev.nocs)))))) (sss_one (ss_ret se_bl)) sss_nil) (sss_one (ss_ret (se_eq hr (se_var (pv 0)) (se_var (pv 1)))))))))
abbrev N__law_words : List Str := ["_law_pick"]
abbrev st__law_words : Stmt := top 65
theorem sc__law_words : FnScope N__law_words ["_law_pick"] (defScope st__law_words) := ⟨rfl, rfl, rfl, by decide +kernel, rfl, by decide +kernel, by decide +kernel⟩
def m__law_words : Sm := (sSeq (sIf (tOf (eBin (inSD false) (eVar 0) (eTup (aCons (eC (.str "OrderTooLow")) aNil)))) (sRet (eTup (aCons (eC (.str "have")) (aCons (eC (.str "wanted")) aNil)))) sNil) (sSeq (sIf (tOf (eBin (inSD false) (eVar 0) (eTup (aCons (eC (.str "UnlikeOrders")) (aCons (eC (.str "UnlikeFlats")) aNil))))) (sRet (eTup (aCons (eC (.str "one")) (aCons (eC (.str "other")) aNil)))) sNil) (sSeq (sIf (tOf (eBin (inSD false) (eVar 0) (eTup (aCons (eC (.str "NotUnit")) (aCons (eC (.str "NotATable")) aNil))))) (sRet (eTup (aCons (eC (.str "line")) (aCons (eC (.str "place")) aNil)))) sNil) (sSeq (sIf (tOf (eBin (inSD false) (eVar 0) (eTup (aCons (eC (.str "NotSquare")) aNil)))) (sRet (eTup (aCons (eC (.str "equations")) (aCons (eC (.str "unknowns")) aNil)))) sNil) (sSeq (sIf (tOf (eBin (inSD false) (eVar 0) (eTup (aCons (eC (.str "InvalidNumber")) (aCons (eC (.str "InvalidOrder")) (aCons (eC (.str "InvalidPlace")) (aCons (eC (.str "InvalidPower")) (aCons (eC (.str "InvalidTimes")) (aCons (eC (.str "InvalidFlat")) (aCons (eC (.str "InvalidLead")) (aCons (eC (.str "InvalidTime")) (aCons (eC (.str "NotFolded")) (aCons (eC (.str "InvalidName")) aNil))))))))))))) (sRet (eTup (aCons (eC (.str "value")) aNil))) sNil) (sSeq (sIf (tOf (eBin (inSD false) (eVar 0) (eTup (aCons (eC (.str "InvalidFraction")) (aCons (eC (.str "InvalidText")) (aCons (eC (.str "InvalidTable")) (aCons (eC (.str "InvalidTop")) (aCons (eC (.str "InvalidFar")) (aCons (eC (.str "InvalidNames")) (aCons (eC (.str "InvalidWord")) (aCons (eC (.str "InvalidPaper")) (aCons (eC (.str "InvalidDeed")) (aCons (eC (.str "UnknownStep")) aNil))))))))))))) (sRet (eTup (aCons (eC (.str "at")) aNil))) sNil) (sSeq (sIf (tOf (eBin (inSD false) (eVar 0) (eTup (aCons (eC (.str "NotSlow")) (aCons (eC (.str "NotOne")) (aCons (eC (.str "NotLed")) aNil)))))) (sRet (eTup (aCons (eC (.str "first")) aNil))) sNil) (sSeq (sIf (tOf (eBin (inSD false) (eVar 0) (eTup (aCons (eC (.str "IsStill")) aNil)))) (sRet (eTup (aCons (eC (.str "have")) aNil))) sNil) (sSeq (sIf (tOf (eBin (inSD false) (eVar 0) (eTup (aCons (eC (.str "NotAFlow")) (aCons (eC (.str "NotInFamily")) (aCons (eC (.str "NotFar")) aNil)))))) (sRet (eTup (aCons (eC (.str "place")) aNil))) sNil) (sSeq (sIf (tOf (eBin (inSD false) (eVar 0) (eTup (aCons (eC (.str "NotAlike")) (aCons (eC (.str "NotInCrew")) aNil))))) (sRet (eTup (aCons (eC (.str "paper")) aNil))) sNil) (sSeq (sIf (tOf (eBin (inSD false) (eVar 0) (eTup (aCons (eC (.str "SameName")) (aCons (eC (.str "UnknownName")) aNil))))) (sRet (eTup (aCons (eC (.str "name")) aNil))) sNil) (sSeq (sIf (tOf (eBin (inSD false) (eVar 0) (eTup (aCons (eC (.str "InvalidLine")) aNil)))) (sRet (eTup (aCons (eC (.str "line")) aNil))) sNil) (sSeq (sIf (tOf (eBin (inSD false) (eVar 0) (eTup (aCons (eC (.str "TooMany")) aNil)))) (sRet (eTup (aCons (eC (.str "most")) aNil))) sNil) (sSeq (sIf (tOf (eBin (inSD false) (eVar 0) (eTup (aCons (eC (.str "Tied")) aNil)))) (sRet (eTup (aCons (eC (.str "ties")) aNil))) sNil) (sRet (eTup aNil))))))))))))))))
def f__law_words : List D → Sto → Res D := chk 1 (runDef 1 m__law_words)
theorem ok__law_words (ev : Ev K mg) : Fn P w K mg base "_law_words" 1 1 f__law_words := by
  obtain ⟨fd, F⟩ := ev.says.def_ D__law_words rfl
  refine fn_name (x := "_law_words") (N := N__law_words) (ps := ["_law_pick"]) F sc__law_words (ev.glo "_law_words") (F.bindsN fun _ _ _ _ _ _ us hl => match us, hl with | [_], _ => rfl) fun cdv A outer s H E hr => ?_
  exact (sss_cons (ss_if (st_inS (se_var (pv 0)) (se_tup (sa_cons se_str sa_nil))) (sss_one (ss_ret (se_tup (sa_cons se_str (sa_cons se_str sa_nil))))) sss_nil) (sss_cons (ss_if (st_inS (se_var (pv 0)) (se_tup (sa_cons se_str (sa_cons se_str sa_nil)))) (sss_one (ss_ret (se_tup (sa_cons se_str (sa_cons se_str sa_nil))))) sss_nil) (sss_cons (ss_if (st_inS (se_var (pv 0)) (se_tup (sa_cons se_str (sa_cons se_str sa_nil)))) (sss_one (ss_ret (se_tup (sa_cons se_str (sa_cons se_str sa_nil))))) sss_nil) (sss_cons (ss_if (st_inS (se_var (pv 0)) (se_tup (sa_cons se_str sa_nil))) (sss_one (ss_ret (se_tup (sa_cons se_str (sa_cons se_str sa_nil))))) sss_nil) (sss_cons (ss_if (st_inS (se_var (pv 0)) (se_tup (sa_cons se_str (sa_cons se_str (sa_cons se_str (sa_cons se_str (sa_cons se_str (sa_cons se_str (sa_cons se_str (sa_cons se_str (sa_cons se_str (sa_cons se_str sa_nil)))))))))))) (sss_one (ss_ret (se_tup (sa_cons se_str sa_nil)))) sss_nil) (sss_cons (ss_if (st_inS (se_var (pv 0)) (se_tup (sa_cons se_str (sa_cons se_str (sa_cons se_str (sa_cons se_str (sa_cons se_str (sa_cons se_str (sa_cons se_str (sa_cons se_str (sa_cons se_str (sa_cons se_str sa_nil)))))))))))) (sss_one (ss_ret (se_tup (sa_cons se_str sa_nil)))) sss_nil) (sss_cons (ss_if (st_inS (se_var (pv 0)) (se_tup (sa_cons se_str (sa_cons se_str (sa_cons se_str sa_nil))))) (sss_one (ss_ret (se_tup (sa_cons se_str sa_nil)))) sss_nil) (sss_cons (ss_if (st_inS (se_var (pv 0)) (se_tup (sa_cons se_str sa_nil))) (sss_one (ss_ret (se_tup (sa_cons se_str sa_nil)))) sss_nil) (sss_cons (ss_if (st_inS (se_var (pv 0)) (se_tup (sa_cons se_str (sa_cons se_str (sa_cons se_str sa_nil))))) (sss_one (ss_ret (se_tup (sa_cons se_str sa_nil)))) sss_nil) (sss_cons (ss_if (st_inS (se_var (pv 0)) (se_tup (sa_cons se_str (sa_cons se_str sa_nil)))) (sss_one (ss_ret (se_tup (sa_cons se_str sa_nil)))) sss_nil) (sss_cons (ss_if (st_inS (se_var (pv 0)) (se_tup (sa_cons se_str (sa_cons se_str sa_nil)))) (sss_one (ss_ret (se_tup (sa_cons se_str sa_nil)))) sss_nil) (sss_cons (ss_if (st_inS (se_var (pv 0)) (se_tup (sa_cons se_str sa_nil))) (sss_one (ss_ret (se_tup (sa_cons se_str sa_nil)))) sss_nil) (sss_cons (ss_if (st_inS (se_var (pv 0)) (se_tup (sa_cons se_str sa_nil))) (sss_one (ss_ret (se_tup (sa_cons se_str sa_nil)))) sss_nil) (sss_cons (ss_if (st_inS (se_var (pv 0)) (se_tup (sa_cons se_str sa_nil))) (sss_one (ss_ret (se_tup (sa_cons se_str sa_nil)))) sss_nil) (sss_one (ss_ret (se_tup sa_nil)))))))))))))))))
abbrev N__law_due : List Str := ["_law_pick"]
abbrev st__law_due : Stmt := top 66
theorem sc__law_due : FnScope N__law_due ["_law_pick"] (defScope st__law_due) := ⟨rfl, rfl, rfl, by decide +kernel, rfl, by decide +kernel, by decide +kernel⟩
def m__law_due : Sm := (sSeq (sIf (tOf (eBin eqD (eVar 0) (eC (.str "NothingLeft")))) (sRet (eLst false (aCons (eVar 0) (aCons (eC (.str "LookupError")) (aCons (eC (.str "IndexError")) aNil))))) sNil) (sSeq (sIf (tOf (eBin (inSD false) (eVar 0) (eTup (aCons (eC (.str "UnknownName")) (aCons (eC (.str "UnknownStep")) aNil))))) (sRet (eLst false (aCons (eVar 0) (aCons (eC (.str "Missing")) (aCons (eC (.str "LookupError")) aNil))))) sNil) (sSeq (sIf (tOf (eBin (inSD false) (eVar 0) (eTup (aCons (eC (.str "DividedByZero")) (aCons (eC (.str "Tied")) (aCons (eC (.str "NotSquare")) aNil)))))) (sRet (eLst false (aCons (eVar 0) (aCons (eC (.str "NoAnswer")) (aCons (eC (.str "ArithmeticError")) aNil))))) sNil) (sRet (eLst false (aCons (eVar 0) (aCons (eC (.str "CreepError")) (aCons (eC (.str "ValueError")) aNil))))))))
def f__law_due : List D → Sto → Res D := chk 1 (runDef 1 m__law_due)
theorem ok__law_due (ev : Ev K mg) : Fn P w K mg base "_law_due" 1 1 f__law_due := by
  obtain ⟨fd, F⟩ := ev.says.def_ D__law_due rfl
  refine fn_name (x := "_law_due") (N := N__law_due) (ps := ["_law_pick"]) F sc__law_due (ev.glo "_law_due") (F.bindsN fun _ _ _ _ _ _ us hl => match us, hl with | [_], _ => rfl) fun cdv A outer s H E hr => ?_
  exact (sss_cons (ss_if (st_eq hr (se_var (pv 0)) se_str) (sss_one (ss_ret (se_lst (k := false) (sa_cons (se_var (pv 0)) (sa_cons se_str (sa_cons se_str sa_nil)))))) sss_nil) (sss_cons (ss_if (st_inS (se_var (pv 0)) (se_tup (sa_cons se_str (sa_cons se_str sa_nil)))) (sss_one (ss_ret (se_lst (k := false) (sa_cons (se_var (pv 0)) (sa_cons se_str (sa_cons se_str sa_nil)))))) sss_nil) (sss_cons (ss_if (st_inS (se_var (pv 0)) (se_tup (sa_cons se_str (sa_cons se_str (sa_cons se_str sa_nil))))) (sss_one (ss_ret (se_lst (k := false) (sa_cons (se_var (pv 0)) (sa_cons se_str (sa_cons se_str sa_nil)))))) sss_nil) (sss_one (ss_ret (se_lst (k := false) (sa_cons (se_var (pv 0)) (sa_cons se_str (sa_cons se_str sa_nil)))))))))
abbrev N__law_thing : List Str := ["_law_bag_here", "_law_deep", "_law_pick", "_law_parts", "_law_k"]
abbrev st__law_thing : Stmt := top 67
theorem sc__law_thing : FnScope N__law_thing ["_law_bag_here", "_law_deep"] (defScope st__law_thing) := ⟨rfl, rfl, rfl, by decide +kernel, rfl, by decide +kernel, by decide +kernel⟩
def m__law_thing : Nat → Sm
  | 0 => mBad
  | n + 1 => (sSeq (sSet 2 (eCall f__law_draw (aCons (eVar 0) (aCons (eIf (tOf (eBin gtI (eVar 1) (eC (.int 0)))) (eC (.int 10)) (eC (.int 8))) aNil)) [])) (sSeq (sIf (tOf (eBin eqD (eVar 2) (eC (.int 0)))) (sRet (eCall f__law_of (aCons (eVar 0) (aCons (eLst false (aCons (eC .non) (aCons (eC (.bl true)) (aCons (eC (.bl false)) aNil)))) aNil)) [])) sNil) (sSeq (sIf (tOf (eBin ltI (eVar 2) (eC (.int 4)))) (sRet (eCall f__law_of (aCons (eVar 0) (aCons (eLst false (aCons (eC (.int 0)) (aCons (eC (.int 1)) (aCons (eUn negI (eC (.int 1))) (aCons (eCall f__law_draw (aCons (eVar 0) (aCons (eC (.int 1000000000)) aNil)) []) (aCons (eUn negI (eCall f__law_draw (aCons (eVar 0) (aCons (eC (.int 1000000000)) aNil)) [])) (aCons (eBin powI (eC (.int 10)) (eC (.int 59))) aNil))))))) aNil)) [])) sNil) (sSeq (sIf (tOf (eBin ltI (eVar 2) (eC (.int 8)))) (sRet (eJoin (eC (.str "")) (eComp false [4] (iRange1 (aCons (eCall f__law_draw (aCons (eVar 0) (aCons (eC (.int 5)) aNil)) []) aNil)) (gN 4) tTrue (eCall f__law_of (aCons (eVar 0) (aCons (eC (.str "ab01.-#:=? xyzAZ~\n")) aNil)) [])))) sNil) (sSeq (sSet 3 (eComp false [4] (iRange1 (aCons (eCall f__law_draw (aCons (eVar 0) (aCons (eC (.int 4)) aNil)) []) aNil)) (gN 4) tTrue (eCall (chk 2 (runDef 5 (m__law_thing n))) (aCons (eVar 0) (aCons (eBin subI (eVar 1) (eC (.int 1))) aNil)) []))) (sRet (eIf (tOf (eBin eqD (eVar 2) (eC (.int 8)))) (eVar 3) (eCB tupleD (aCons (eVar 3) aNil)))))))))
def f__law_thing (n : Nat) : List D → Sto → Res D := chk 2 (runDef 5 (m__law_thing n))
theorem ok__law_thing (ev : Ev K mg) (n : Nat) : Fn P w K mg base "_law_thing" (3 + n) 2 (f__law_thing n) := by
  induction n with
  | zero =>
    obtain ⟨fd, F⟩ := ev.says.def_ D__law_thing rfl
    refine fn_name (k := 2) (m := mBad) (x := "_law_thing") (N := N__law_thing) (ps := ["_law_bag_here", "_law_deep"]) F sc__law_thing (ev.glo "_law_thing") (F.bindsN fun _ _ _ _ _ _ us hl => match us, hl with | [_, _], _ => rfl) fun cdv A outer s H E hr => ?_
    exact sss_bad ⟨_, pss_bad⟩
  | succ n IH =>
    obtain ⟨fd, F⟩ := ev.says.def_ D__law_thing rfl
    refine fn_name (k := 3 + n) (x := "_law_thing") (N := N__law_thing) (ps := ["_law_bag_here", "_law_deep"]) F sc__law_thing (ev.glo "_law_thing") (F.bindsN fun _ _ _ _ _ _ us hl => match us, hl with | [_, _], _ => rfl) fun cdv A outer s H E hr => ?_
    exact (sss_cons (ss_set sc__law_thing.nd (i := 2) rfl (by first | exact Or.inl rfl | exact Or.inr rfl) (se_fn (ok__law_draw ev) hr (by omega) cx_takes (sa_cons (se_var (pv 0)) (sa_cons (se_if (st_gt (se_var (pv 1)) se_int) se_int se_int) sa_nil)))) (sss_cons (ss_if (st_eq hr (se_var (pv 2)) se_int) (sss_one (ss_ret (se_fn (ok__law_of ev) hr (by omega) cx_takes (sa_cons (se_var (pv 0)) (sa_cons (se_lst (k := false) (sa_cons se_non (sa_cons se_bl (sa_cons se_bl sa_nil)))) sa_nil))))) sss_nil) (sss_cons (ss_if (st_lt (se_var (pv 2)) se_int) (sss_one (ss_ret (se_fn (ok__law_of ev) hr (by omega) cx_takes (sa_cons (se_var (pv 0)) (sa_cons (se_lst (k := false) (sa_cons se_int (sa_cons se_int (sa_cons (se_neg se_int) (sa_cons (se_fn (ok__law_draw ev) hr (by omega) cx_takes (sa_cons (se_var (pv 0)) (sa_cons se_int sa_nil))) (sa_cons (se_neg (se_fn (ok__law_draw ev) hr (by omega) cx_takes (sa_cons (se_var (pv 0)) (sa_cons se_int sa_nil)))) (sa_cons (se_pow se_int se_int) sa_nil))))))) sa_nil))))) sss_nil) (sss_cons (ss_if (st_lt (se_var (pv 2)) se_int) (sss_one (ss_ret (se_join se_str (se_comp (k := false) (own := [("_law_k", 4)]) rfl sc__law_thing.nd (si_range1 (ev.free "range") (sa_cons (se_fn (ok__law_draw ev) hr (by omega) cx_takes (sa_cons (se_var (pv 0)) (sa_cons se_int sa_nil))) sa_nil)) (blkOk_by (N := N__law_thing) (sc := defScope st__law_thing) (own := [("_law_k", 4)]) (by decide +kernel)) (fun _ _ _ _ _ => (pg_name (i := 4) sc__law_thing.nd rfl (Or.inl rfl))) (grel_name (i := 4) (by decide)) (fun _ _ _ _ _ => (se_fn (ok__law_of ev) hr (by omega) takes0 (sa_cons (se_var (pv 0)) (sa_cons se_str sa_nil)))))))) sss_nil) (sss_cons (ss_setComp (k := false) (i := 3) (own := [("_law_k", 4)]) rfl sc__law_thing.nd rfl rfl (sw_true rfl rfl rfl (by decide +kernel)) (si_range1 (ev.free "range") (sa_cons (se_fn (ok__law_draw ev) hr (by omega) cx_takes (sa_cons (se_var (pv 0)) (sa_cons se_int sa_nil))) sa_nil)) (blkOk_by (N := N__law_thing) (sc := defScope st__law_thing) (own := [("_law_k", 4)]) (by decide +kernel)) (fun _ _ _ _ _ => (pg_name (i := 4) sc__law_thing.nd rfl (Or.inl rfl))) (grel_name (i := 4) (by decide)) (fun _ _ _ _ _ => (se_fn IH hr (by omega) takes0 (sa_cons (se_var (pv 0)) (sa_cons (se_sub (se_var (pv 1)) se_int) sa_nil))))) (sss_one (ss_ret (se_if (st_eq hr (se_var (pv 2)) se_int) (se_var (pv 3)) (se_cty call_tuple_of gc_tuple (ev.free "tuple") (sa_cons (se_var (pv 3)) sa_nil))))))))))
abbrev N__law_copied : List Str := ["_law_thing_here", "_law_part"]
abbrev st__law_copied : Stmt := top 68
theorem sc__law_copied : FnScope N__law_copied ["_law_thing_here"] (defScope st__law_copied) := ⟨rfl, rfl, rfl, by decide +kernel, rfl, by decide +kernel, by decide +kernel⟩
def m__law_copied : Nat → Sm
  | 0 => mBad
  | n + 1 => (sSeq (sIf (tOf (eUn (isiD (isB "list" [])) (eVar 0))) (sRet (eComp false [1] (iVal (eVar 0)) (gN 1) tTrue (eCall (chk 1 (runDef 2 (m__law_copied n))) (aCons (eVar 1) aNil) []))) sNil) (sSeq (sIf (tOf (eUn (isiD (isB "tuple" [])) (eVar 0))) (sRet (eCB tupleD (aCons (eComp false [1] (iVal (eVar 0)) (gN 1) tTrue (eCall (chk 1 (runDef 2 (m__law_copied n))) (aCons (eVar 1) aNil) [])) aNil))) sNil) (sRet (eVar 0))))
def f__law_copied (n : Nat) : List D → Sto → Res D := chk 1 (runDef 2 (m__law_copied n))
theorem ok__law_copied (ev : Ev K mg) (n : Nat) : Fn P w K mg base "_law_copied" (1 + n) 1 (f__law_copied n) := by
  induction n with
  | zero =>
    obtain ⟨fd, F⟩ := ev.says.def_ D__law_copied rfl
    refine fn_name (k := 0) (m := mBad) (x := "_law_copied") (N := N__law_copied) (ps := ["_law_thing_here"]) F sc__law_copied (ev.glo "_law_copied") (F.bindsN fun _ _ _ _ _ _ us hl => match us, hl with | [_], _ => rfl) fun cdv A outer s H E hr => ?_
    exact sss_bad ⟨_, pss_bad⟩
  | succ n IH =>
    obtain ⟨fd, F⟩ := ev.says.def_ D__law_copied rfl
    refine fn_name (k := 1 + n) (x := "_law_copied") (N := N__law_copied) (ps := ["_law_thing_here"]) F sc__law_copied (ev.glo "_law_copied") (F.bindsN fun _ _ _ _ _ _ us hl => match us, hl with | [_], _ => rfl) fun cdv A outer s H E hr => ?_
    exact (sss_cons (ss_if (st_val (se_isi (ev.free "isinstance") (se_var (pv 0)) (cls_ty (ev.free "list")) (isB_ok (by decide) ev.nocs))) (sss_one (ss_ret (se_comp (k := false) (own := [("_law_part", 1)]) rfl sc__law_copied.nd (si_val (se_var (pv 0))) (blkOk_by (N := N__law_copied) (sc := defScope st__law_copied) (own := [("_law_part", 1)]) (by decide +kernel)) (fun _ _ _ _ _ => (pg_name (i := 1) sc__law_copied.nd rfl (Or.inl rfl))) (grel_name (i := 1) (by decide)) (fun _ _ _ _ _ => (se_fn IH hr (by omega) takes0 (sa_cons (se_var (pv 1)) sa_nil)))))) sss_nil) (sss_cons (ss_if (st_val (se_isi (ev.free "isinstance") (se_var (pv 0)) (cls_ty (ev.free "tuple")) (isB_ok (by decide) ev.nocs))) (sss_one (ss_ret (se_cty call_tuple_of gc_tuple (ev.free "tuple") (sa_cons (se_comp (k := false) (own := [("_law_part", 1)]) rfl sc__law_copied.nd (si_val (se_var (pv 0))) (blkOk_by (N := N__law_copied) (sc := defScope st__law_copied) (own := [("_law_part", 1)]) (by decide +kernel)) (fun _ _ _ _ _ => (pg_name (i := 1) sc__law_copied.nd rfl (Or.inl rfl))) (grel_name (i := 1) (by decide)) (fun _ _ _ _ _ => (se_fn IH hr (by omega) takes0 (sa_cons (se_var (pv 1)) sa_nil)))) sa_nil)))) sss_nil) (sss_one (ss_ret (se_var (pv 0))))))
abbrev N__law_first : List Str := ["_law_pick", "_law_a", "_law_way"]
abbrev st__law_first : Stmt := top 58
theorem sc__law_first : FnScope N__law_first ["_law_pick", "_law_a", "_law_way"] (defScope st__law_first) := ⟨rfl, rfl, rfl, by decide +kernel, rfl, by decide +kernel, by decide +kernel⟩
def m__law_first : Sm := (sSeq (sIf (tOf (eBin eqD (eVar 0) (eC (.str "InvalidNumber")))) (sRet (eIf (tOf (eBin ltI (eVar 2) (eC (.int 2)))) (eMk "InvalidNumber" tp_InvalidNumber 1 0 1 false (aCons (eVar 1) aNil) aNil) (eMk "InvalidNumber" tp_InvalidNumber 0 1 1 false aNil (aCons (eVar 1) aNil)))) sNil) (sSeq (sIf (tOf (eBin eqD (eVar 0) (eC (.str "InvalidFraction")))) (sRet (eIf (tOf (eBin ltI (eVar 2) (eC (.int 2)))) (eMk "InvalidFraction" tp_InvalidFraction 1 0 1 false (aCons (eVar 1) aNil) aNil) (eMk "InvalidFraction" tp_InvalidFraction 0 1 1 false aNil (aCons (eVar 1) aNil)))) sNil) (sSeq (sIf (tOf (eBin eqD (eVar 0) (eC (.str "InvalidOrder")))) (sRet (eIf (tOf (eBin ltI (eVar 2) (eC (.int 2)))) (eMk "InvalidOrder" tp_InvalidOrder 1 0 1 false (aCons (eVar 1) aNil) aNil) (eMk "InvalidOrder" tp_InvalidOrder 0 1 1 false aNil (aCons (eVar 1) aNil)))) sNil) (sSeq (sIf (tOf (eBin eqD (eVar 0) (eC (.str "InvalidPlace")))) (sRet (eIf (tOf (eBin ltI (eVar 2) (eC (.int 2)))) (eMk "InvalidPlace" tp_InvalidPlace 1 0 1 false (aCons (eVar 1) aNil) aNil) (eMk "InvalidPlace" tp_InvalidPlace 0 1 1 false aNil (aCons (eVar 1) aNil)))) sNil) (sSeq (sIf (tOf (eBin eqD (eVar 0) (eC (.str "InvalidPower")))) (sRet (eIf (tOf (eBin ltI (eVar 2) (eC (.int 2)))) (eMk "InvalidPower" tp_InvalidPower 1 0 1 false (aCons (eVar 1) aNil) aNil) (eMk "InvalidPower" tp_InvalidPower 0 1 1 false aNil (aCons (eVar 1) aNil)))) sNil) (sSeq (sIf (tOf (eBin eqD (eVar 0) (eC (.str "InvalidTimes")))) (sRet (eIf (tOf (eBin ltI (eVar 2) (eC (.int 2)))) (eMk "InvalidTimes" tp_InvalidTimes 1 0 1 false (aCons (eVar 1) aNil) aNil) (eMk "InvalidTimes" tp_InvalidTimes 0 1 1 false aNil (aCons (eVar 1) aNil)))) sNil) (sSeq (sIf (tOf (eBin eqD (eVar 0) (eC (.str "InvalidText")))) (sRet (eIf (tOf (eBin ltI (eVar 2) (eC (.int 2)))) (eMk "InvalidText" tp_InvalidText 1 0 1 false (aCons (eVar 1) aNil) aNil) (eMk "InvalidText" tp_InvalidText 0 1 1 false aNil (aCons (eVar 1) aNil)))) sNil) (sSeq (sIf (tOf (eBin eqD (eVar 0) (eC (.str "InvalidTable")))) (sRet (eIf (tOf (eBin ltI (eVar 2) (eC (.int 2)))) (eMk "InvalidTable" tp_InvalidTable 1 0 1 false (aCons (eVar 1) aNil) aNil) (eMk "InvalidTable" tp_InvalidTable 0 1 1 false aNil (aCons (eVar 1) aNil)))) sNil) (sSeq (sIf (tOf (eBin eqD (eVar 0) (eC (.str "NotSlow")))) (sRet (eIf (tOf (eBin ltI (eVar 2) (eC (.int 2)))) (eMk "NotSlow" tp_NotSlow 1 0 1 false (aCons (eVar 1) aNil) aNil) (eMk "NotSlow" tp_NotSlow 0 1 1 false aNil (aCons (eVar 1) aNil)))) sNil) (sSeq (sIf (tOf (eBin eqD (eVar 0) (eC (.str "NotOne")))) (sRet (eIf (tOf (eBin ltI (eVar 2) (eC (.int 2)))) (eMk "NotOne" tp_NotOne 1 0 1 false (aCons (eVar 1) aNil) aNil) (eMk "NotOne" tp_NotOne 0 1 1 false aNil (aCons (eVar 1) aNil)))) sNil) (sSeq (sIf (tOf (eBin eqD (eVar 0) (eC (.str "IsStill")))) (sRet (eIf (tOf (eBin ltI (eVar 2) (eC (.int 2)))) (eMk "IsStill" tp_IsStill 1 0 1 false (aCons (eVar 1) aNil) aNil) (eMk "IsStill" tp_IsStill 0 1 1 false aNil (aCons (eVar 1) aNil)))) sNil) (sSeq (sIf (tOf (eBin eqD (eVar 0) (eC (.str "NotAFlow")))) (sRet (eIf (tOf (eBin ltI (eVar 2) (eC (.int 2)))) (eMk "NotAFlow" tp_NotAFlow 1 0 1 false (aCons (eVar 1) aNil) aNil) (eMk "NotAFlow" tp_NotAFlow 0 1 1 false aNil (aCons (eVar 1) aNil)))) sNil) (sSeq (sIf (tOf (eBin eqD (eVar 0) (eC (.str "InvalidFlat")))) (sRet (eIf (tOf (eBin ltI (eVar 2) (eC (.int 2)))) (eMk "InvalidFlat" tp_InvalidFlat 1 0 1 false (aCons (eVar 1) aNil) aNil) (eMk "InvalidFlat" tp_InvalidFlat 0 1 1 false aNil (aCons (eVar 1) aNil)))) sNil) (sSeq (sIf (tOf (eBin eqD (eVar 0) (eC (.str "NotAlike")))) (sRet (eIf (tOf (eBin ltI (eVar 2) (eC (.int 2)))) (eMk "NotAlike" tp_NotAlike 1 0 1 false (aCons (eVar 1) aNil) aNil) (eMk "NotAlike" tp_NotAlike 0 1 1 false aNil (aCons (eVar 1) aNil)))) sNil) (sSeq (sIf (tOf (eBin eqD (eVar 0) (eC (.str "InvalidLead")))) (sRet (eIf (tOf (eBin ltI (eVar 2) (eC (.int 2)))) (eMk "InvalidLead" tp_InvalidLead 1 0 1 false (aCons (eVar 1) aNil) aNil) (eMk "InvalidLead" tp_InvalidLead 0 1 1 false aNil (aCons (eVar 1) aNil)))) sNil) (sSeq (sIf (tOf (eBin eqD (eVar 0) (eC (.str "InvalidTime")))) (sRet (eIf (tOf (eBin ltI (eVar 2) (eC (.int 2)))) (eMk "InvalidTime" tp_InvalidTime 1 0 1 false (aCons (eVar 1) aNil) aNil) (eMk "InvalidTime" tp_InvalidTime 0 1 1 false aNil (aCons (eVar 1) aNil)))) sNil) (sSeq (sIf (tOf (eBin eqD (eVar 0) (eC (.str "InvalidTop")))) (sRet (eIf (tOf (eBin ltI (eVar 2) (eC (.int 2)))) (eMk "InvalidTop" tp_InvalidTop 1 0 1 false (aCons (eVar 1) aNil) aNil) (eMk "InvalidTop" tp_InvalidTop 0 1 1 false aNil (aCons (eVar 1) aNil)))) sNil) (sSeq (sIf (tOf (eBin eqD (eVar 0) (eC (.str "NotInFamily")))) (sRet (eIf (tOf (eBin ltI (eVar 2) (eC (.int 2)))) (eMk "NotInFamily" tp_NotInFamily 1 0 1 false (aCons (eVar 1) aNil) aNil) (eMk "NotInFamily" tp_NotInFamily 0 1 1 false aNil (aCons (eVar 1) aNil)))) sNil) (sRet (eC .non))))))))))))))))))))
def f__law_first : List D → Sto → Res D := chk 3 (runDef 3 m__law_first)
theorem ok__law_first (ev : Ev K mg) : Fn P w K mg base "_law_first" 3 3 f__law_first := by
  obtain ⟨fd, F⟩ := ev.says.def_ D__law_first rfl
  refine fn_name (x := "_law_first") (N := N__law_first) (ps := ["_law_pick", "_law_a", "_law_way"]) F sc__law_first (ev.glo "_law_first") (F.bindsN fun _ _ _ _ _ _ us hl => match us, hl with | [_, _, _], _ => rfl) fun cdv A outer s H E hr => ?_
  exact (sss_cons (ss_if (st_eq hr (se_var (pv 0)) se_str) (sss_one (ss_ret (se_if (st_lt (se_var (pv 2)) se_int) (se_mkX (mk_InvalidNumber ev) (k := 0) (hr.mono (by omega)) cx_takes (sa_cons (se_var (pv 1)) sa_nil) (by simp [md_InvalidNumber])) (se_mkXK0 (ks := ["value"]) (mk_InvalidNumber ev) (k := 0) (hr.mono (by omega)) cx_takes (sk_cons (se_var (pv 1)) sk_nil) (by simp [md_InvalidNumber]))))) sss_nil) (sss_cons (ss_if (st_eq hr (se_var (pv 0)) se_str) (sss_one (ss_ret (se_if (st_lt (se_var (pv 2)) se_int) (se_mkX (mk_InvalidFraction ev) (k := 0) (hr.mono (by omega)) cx_takes (sa_cons (se_var (pv 1)) sa_nil) (by simp [md_InvalidFraction])) (se_mkXK0 (ks := ["at"]) (mk_InvalidFraction ev) (k := 0) (hr.mono (by omega)) cx_takes (sk_cons (se_var (pv 1)) sk_nil) (by simp [md_InvalidFraction]))))) sss_nil) (sss_cons (ss_if (st_eq hr (se_var (pv 0)) se_str) (sss_one (ss_ret (se_if (st_lt (se_var (pv 2)) se_int) (se_mkX (mk_InvalidOrder ev) (k := 0) (hr.mono (by omega)) cx_takes (sa_cons (se_var (pv 1)) sa_nil) (by simp [md_InvalidOrder])) (se_mkXK0 (ks := ["value"]) (mk_InvalidOrder ev) (k := 0) (hr.mono (by omega)) cx_takes (sk_cons (se_var (pv 1)) sk_nil) (by simp [md_InvalidOrder]))))) sss_nil) (sss_cons (ss_if (st_eq hr (se_var (pv 0)) se_str) (sss_one (ss_ret (se_if (st_lt (se_var (pv 2)) se_int) (se_mkX (mk_InvalidPlace ev) (k := 0) (hr.mono (by omega)) cx_takes (sa_cons (se_var (pv 1)) sa_nil) (by simp [md_InvalidPlace])) (se_mkXK0 (ks := ["value"]) (mk_InvalidPlace ev) (k := 0) (hr.mono (by omega)) cx_takes (sk_cons (se_var (pv 1)) sk_nil) (by simp [md_InvalidPlace]))))) sss_nil) (sss_cons (ss_if (st_eq hr (se_var (pv 0)) se_str) (sss_one (ss_ret (se_if (st_lt (se_var (pv 2)) se_int) (se_mkX (mk_InvalidPower ev) (k := 0) (hr.mono (by omega)) cx_takes (sa_cons (se_var (pv 1)) sa_nil) (by simp [md_InvalidPower])) (se_mkXK0 (ks := ["value"]) (mk_InvalidPower ev) (k := 0) (hr.mono (by omega)) cx_takes (sk_cons (se_var (pv 1)) sk_nil) (by simp [md_InvalidPower]))))) sss_nil) (sss_cons (ss_if (st_eq hr (se_var (pv 0)) se_str) (sss_one (ss_ret (se_if (st_lt (se_var (pv 2)) se_int) (se_mkX (mk_InvalidTimes ev) (k := 0) (hr.mono (by omega)) cx_takes (sa_cons (se_var (pv 1)) sa_nil) (by simp [md_InvalidTimes])) (se_mkXK0 (ks := ["value"]) (mk_InvalidTimes ev) (k := 0) (hr.mono (by omega)) cx_takes (sk_cons (se_var (pv 1)) sk_nil) (by simp [md_InvalidTimes]))))) sss_nil) (sss_cons (ss_if (st_eq hr (se_var (pv 0)) se_str) (sss_one (ss_ret (se_if (st_lt (se_var (pv 2)) se_int) (se_mkX (mk_InvalidText ev) (k := 0) (hr.mono (by omega)) cx_takes (sa_cons (se_var (pv 1)) sa_nil) (by simp [md_InvalidText])) (se_mkXK0 (ks := ["at"]) (mk_InvalidText ev) (k := 0) (hr.mono (by omega)) cx_takes (sk_cons (se_var (pv 1)) sk_nil) (by simp [md_InvalidText]))))) sss_nil) (sss_cons (ss_if (st_eq hr (se_var (pv 0)) se_str) (sss_one (ss_ret (se_if (st_lt (se_var (pv 2)) se_int) (se_mkX (mk_InvalidTable ev) (k := 0) (hr.mono (by omega)) cx_takes (sa_cons (se_var (pv 1)) sa_nil) (by simp [md_InvalidTable])) (se_mkXK0 (ks := ["at"]) (mk_InvalidTable ev) (k := 0) (hr.mono (by omega)) cx_takes (sk_cons (se_var (pv 1)) sk_nil) (by simp [md_InvalidTable]))))) sss_nil) (sss_cons (ss_if (st_eq hr (se_var (pv 0)) se_str) (sss_one (ss_ret (se_if (st_lt (se_var (pv 2)) se_int) (se_mkX (mk_NotSlow ev) (k := 0) (hr.mono (by omega)) cx_takes (sa_cons (se_var (pv 1)) sa_nil) (by simp [md_NotSlow])) (se_mkXK0 (ks := ["first"]) (mk_NotSlow ev) (k := 0) (hr.mono (by omega)) cx_takes (sk_cons (se_var (pv 1)) sk_nil) (by simp [md_NotSlow]))))) sss_nil) (sss_cons (ss_if (st_eq hr (se_var (pv 0)) se_str) (sss_one (ss_ret (se_if (st_lt (se_var (pv 2)) se_int) (se_mkX (mk_NotOne ev) (k := 0) (hr.mono (by omega)) cx_takes (sa_cons (se_var (pv 1)) sa_nil) (by simp [md_NotOne])) (se_mkXK0 (ks := ["first"]) (mk_NotOne ev) (k := 0) (hr.mono (by omega)) cx_takes (sk_cons (se_var (pv 1)) sk_nil) (by simp [md_NotOne]))))) sss_nil) (sss_cons (ss_if (st_eq hr (se_var (pv 0)) se_str) (sss_one (ss_ret (se_if (st_lt (se_var (pv 2)) se_int) (se_mkX (mk_IsStill ev) (k := 0) (hr.mono (by omega)) cx_takes (sa_cons (se_var (pv 1)) sa_nil) (by simp [md_IsStill])) (se_mkXK0 (ks := ["have"]) (mk_IsStill ev) (k := 0) (hr.mono (by omega)) cx_takes (sk_cons (se_var (pv 1)) sk_nil) (by simp [md_IsStill]))))) sss_nil) (sss_cons (ss_if (st_eq hr (se_var (pv 0)) se_str) (sss_one (ss_ret (se_if (st_lt (se_var (pv 2)) se_int) (se_mkX (mk_NotAFlow ev) (k := 0) (hr.mono (by omega)) cx_takes (sa_cons (se_var (pv 1)) sa_nil) (by simp [md_NotAFlow])) (se_mkXK0 (ks := ["place"]) (mk_NotAFlow ev) (k := 0) (hr.mono (by omega)) cx_takes (sk_cons (se_var (pv 1)) sk_nil) (by simp [md_NotAFlow]))))) sss_nil) (sss_cons (ss_if (st_eq hr (se_var (pv 0)) se_str) (sss_one (ss_ret (se_if (st_lt (se_var (pv 2)) se_int) (se_mkX (mk_InvalidFlat ev) (k := 0) (hr.mono (by omega)) cx_takes (sa_cons (se_var (pv 1)) sa_nil) (by simp [md_InvalidFlat])) (se_mkXK0 (ks := ["value"]) (mk_InvalidFlat ev) (k := 0) (hr.mono (by omega)) cx_takes (sk_cons (se_var (pv 1)) sk_nil) (by simp [md_InvalidFlat]))))) sss_nil) (sss_cons (ss_if (st_eq hr (se_var (pv 0)) se_str) (sss_one (ss_ret (se_if (st_lt (se_var (pv 2)) se_int) (se_mkX (mk_NotAlike ev) (k := 0) (hr.mono (by omega)) cx_takes (sa_cons (se_var (pv 1)) sa_nil) (by simp [md_NotAlike])) (se_mkXK0 (ks := ["paper"]) (mk_NotAlike ev) (k := 0) (hr.mono (by omega)) cx_takes (sk_cons (se_var (pv 1)) sk_nil) (by simp [md_NotAlike]))))) sss_nil) (sss_cons (ss_if (st_eq hr (se_var (pv 0)) se_str) (sss_one (ss_ret (se_if (st_lt (se_var (pv 2)) se_int) (se_mkX (mk_InvalidLead ev) (k := 0) (hr.mono (by omega)) cx_takes (sa_cons (se_var (pv 1)) sa_nil) (by simp [md_InvalidLead])) (se_mkXK0 (ks := ["value"]) (mk_InvalidLead ev) (k := 0) (hr.mono (by omega)) cx_takes (sk_cons (se_var (pv 1)) sk_nil) (by simp [md_InvalidLead]))))) sss_nil) (sss_cons (ss_if (st_eq hr (se_var (pv 0)) se_str) (sss_one (ss_ret (se_if (st_lt (se_var (pv 2)) se_int) (se_mkX (mk_InvalidTime ev) (k := 0) (hr.mono (by omega)) cx_takes (sa_cons (se_var (pv 1)) sa_nil) (by simp [md_InvalidTime])) (se_mkXK0 (ks := ["value"]) (mk_InvalidTime ev) (k := 0) (hr.mono (by omega)) cx_takes (sk_cons (se_var (pv 1)) sk_nil) (by simp [md_InvalidTime]))))) sss_nil) (sss_cons (ss_if (st_eq hr (se_var (pv 0)) se_str) (sss_one (ss_ret (se_if (st_lt (se_var (pv 2)) se_int) (se_mkX (mk_InvalidTop ev) (k := 0) (hr.mono (by omega)) cx_takes (sa_cons (se_var (pv 1)) sa_nil) (by simp [md_InvalidTop])) (se_mkXK0 (ks := ["at"]) (mk_InvalidTop ev) (k := 0) (hr.mono (by omega)) cx_takes (sk_cons (se_var (pv 1)) sk_nil) (by simp [md_InvalidTop]))))) sss_nil) (sss_cons (ss_if (st_eq hr (se_var (pv 0)) se_str) (sss_one (ss_ret (se_if (st_lt (se_var (pv 2)) se_int) (se_mkX (mk_NotInFamily ev) (k := 0) (hr.mono (by omega)) cx_takes (sa_cons (se_var (pv 1)) sa_nil) (by simp [md_NotInFamily])) (se_mkXK0 (ks := ["place"]) (mk_NotInFamily ev) (k := 0) (hr.mono (by omega)) cx_takes (sk_cons (se_var (pv 1)) sk_nil) (by simp [md_NotInFamily]))))) sss_nil) (sss_one (ss_ret se_non))))))))))))))))))))
abbrev N__law_second : List Str := ["_law_pick", "_law_a", "_law_way"]
abbrev st__law_second : Stmt := top 59
theorem sc__law_second : FnScope N__law_second ["_law_pick", "_law_a", "_law_way"] (defScope st__law_second) := ⟨rfl, rfl, rfl, by decide +kernel, rfl, by decide +kernel, by decide +kernel⟩
def m__law_second : Sm := (sSeq (sIf (tOf (eBin eqD (eVar 0) (eC (.str "NotFolded")))) (sRet (eIf (tOf (eBin ltI (eVar 2) (eC (.int 2)))) (eMk "NotFolded" tp_NotFolded 1 0 1 false (aCons (eVar 1) aNil) aNil) (eMk "NotFolded" tp_NotFolded 0 1 1 false aNil (aCons (eVar 1) aNil)))) sNil) (sSeq (sIf (tOf (eBin eqD (eVar 0) (eC (.str "InvalidFar")))) (sRet (eIf (tOf (eBin ltI (eVar 2) (eC (.int 2)))) (eMk "InvalidFar" tp_InvalidFar 1 0 1 false (aCons (eVar 1) aNil) aNil) (eMk "InvalidFar" tp_InvalidFar 0 1 1 false aNil (aCons (eVar 1) aNil)))) sNil) (sSeq (sIf (tOf (eBin eqD (eVar 0) (eC (.str "NotFar")))) (sRet (eIf (tOf (eBin ltI (eVar 2) (eC (.int 2)))) (eMk "NotFar" tp_NotFar 1 0 1 false (aCons (eVar 1) aNil) aNil) (eMk "NotFar" tp_NotFar 0 1 1 false aNil (aCons (eVar 1) aNil)))) sNil) (sSeq (sIf (tOf (eBin eqD (eVar 0) (eC (.str "NotLed")))) (sRet (eIf (tOf (eBin ltI (eVar 2) (eC (.int 2)))) (eMk "NotLed" tp_NotLed 1 0 1 false (aCons (eVar 1) aNil) aNil) (eMk "NotLed" tp_NotLed 0 1 1 false aNil (aCons (eVar 1) aNil)))) sNil) (sSeq (sIf (tOf (eBin eqD (eVar 0) (eC (.str "NotInCrew")))) (sRet (eIf (tOf (eBin ltI (eVar 2) (eC (.int 2)))) (eMk "NotInCrew" tp_NotInCrew 1 0 1 false (aCons (eVar 1) aNil) aNil) (eMk "NotInCrew" tp_NotInCrew 0 1 1 false aNil (aCons (eVar 1) aNil)))) sNil) (sSeq (sIf (tOf (eBin eqD (eVar 0) (eC (.str "InvalidName")))) (sRet (eIf (tOf (eBin ltI (eVar 2) (eC (.int 2)))) (eMk "InvalidName" tp_InvalidName 1 0 1 false (aCons (eVar 1) aNil) aNil) (eMk "InvalidName" tp_InvalidName 0 1 1 false aNil (aCons (eVar 1) aNil)))) sNil) (sSeq (sIf (tOf (eBin eqD (eVar 0) (eC (.str "InvalidNames")))) (sRet (eIf (tOf (eBin ltI (eVar 2) (eC (.int 2)))) (eMk "InvalidNames" tp_InvalidNames 1 0 1 false (aCons (eVar 1) aNil) aNil) (eMk "InvalidNames" tp_InvalidNames 0 1 1 false aNil (aCons (eVar 1) aNil)))) sNil) (sSeq (sIf (tOf (eBin eqD (eVar 0) (eC (.str "InvalidWord")))) (sRet (eIf (tOf (eBin ltI (eVar 2) (eC (.int 2)))) (eMk "InvalidWord" tp_InvalidWord 1 0 1 false (aCons (eVar 1) aNil) aNil) (eMk "InvalidWord" tp_InvalidWord 0 1 1 false aNil (aCons (eVar 1) aNil)))) sNil) (sSeq (sIf (tOf (eBin eqD (eVar 0) (eC (.str "SameName")))) (sRet (eIf (tOf (eBin ltI (eVar 2) (eC (.int 2)))) (eMk "SameName" tp_SameName 1 0 1 false (aCons (eVar 1) aNil) aNil) (eMk "SameName" tp_SameName 0 1 1 false aNil (aCons (eVar 1) aNil)))) sNil) (sSeq (sIf (tOf (eBin eqD (eVar 0) (eC (.str "InvalidPaper")))) (sRet (eIf (tOf (eBin ltI (eVar 2) (eC (.int 2)))) (eMk "InvalidPaper" tp_InvalidPaper 1 0 1 false (aCons (eVar 1) aNil) aNil) (eMk "InvalidPaper" tp_InvalidPaper 0 1 1 false aNil (aCons (eVar 1) aNil)))) sNil) (sSeq (sIf (tOf (eBin eqD (eVar 0) (eC (.str "InvalidDeed")))) (sRet (eIf (tOf (eBin ltI (eVar 2) (eC (.int 2)))) (eMk "InvalidDeed" tp_InvalidDeed 1 0 1 false (aCons (eVar 1) aNil) aNil) (eMk "InvalidDeed" tp_InvalidDeed 0 1 1 false aNil (aCons (eVar 1) aNil)))) sNil) (sSeq (sIf (tOf (eBin eqD (eVar 0) (eC (.str "InvalidLine")))) (sRet (eIf (tOf (eBin ltI (eVar 2) (eC (.int 2)))) (eMk "InvalidLine" tp_InvalidLine 1 0 1 false (aCons (eVar 1) aNil) aNil) (eMk "InvalidLine" tp_InvalidLine 0 1 1 false aNil (aCons (eVar 1) aNil)))) sNil) (sSeq (sIf (tOf (eBin eqD (eVar 0) (eC (.str "TooMany")))) (sRet (eIf (tOf (eBin ltI (eVar 2) (eC (.int 2)))) (eMk "TooMany" tp_TooMany 1 0 1 false (aCons (eVar 1) aNil) aNil) (eMk "TooMany" tp_TooMany 0 1 1 false aNil (aCons (eVar 1) aNil)))) sNil) (sSeq (sIf (tOf (eBin eqD (eVar 0) (eC (.str "Tied")))) (sRet (eIf (tOf (eBin ltI (eVar 2) (eC (.int 2)))) (eMk "Tied" tp_Tied 1 0 1 false (aCons (eVar 1) aNil) aNil) (eMk "Tied" tp_Tied 0 1 1 false aNil (aCons (eVar 1) aNil)))) sNil) (sSeq (sIf (tOf (eBin eqD (eVar 0) (eC (.str "UnknownName")))) (sRet (eIf (tOf (eBin ltI (eVar 2) (eC (.int 2)))) (eMk "UnknownName" tp_UnknownName 1 0 1 false (aCons (eVar 1) aNil) aNil) (eMk "UnknownName" tp_UnknownName 0 1 1 false aNil (aCons (eVar 1) aNil)))) sNil) (sSeq (sIf (tOf (eBin eqD (eVar 0) (eC (.str "UnknownStep")))) (sRet (eIf (tOf (eBin ltI (eVar 2) (eC (.int 2)))) (eMk "UnknownStep" tp_UnknownStep 1 0 1 false (aCons (eVar 1) aNil) aNil) (eMk "UnknownStep" tp_UnknownStep 0 1 1 false aNil (aCons (eVar 1) aNil)))) sNil) (sRet (eC .non))))))))))))))))))
def f__law_second : List D → Sto → Res D := chk 3 (runDef 3 m__law_second)
theorem ok__law_second (ev : Ev K mg) : Fn P w K mg base "_law_second" 3 3 f__law_second := by
  obtain ⟨fd, F⟩ := ev.says.def_ D__law_second rfl
  refine fn_name (x := "_law_second") (N := N__law_second) (ps := ["_law_pick", "_law_a", "_law_way"]) F sc__law_second (ev.glo "_law_second") (F.bindsN fun _ _ _ _ _ _ us hl => match us, hl with | [_, _, _], _ => rfl) fun cdv A outer s H E hr => ?_
  exact (sss_cons (ss_if (st_eq hr (se_var (pv 0)) se_str) (sss_one (ss_ret (se_if (st_lt (se_var (pv 2)) se_int) (se_mkX (mk_NotFolded ev) (k := 0) (hr.mono (by omega)) cx_takes (sa_cons (se_var (pv 1)) sa_nil) (by simp [md_NotFolded])) (se_mkXK0 (ks := ["value"]) (mk_NotFolded ev) (k := 0) (hr.mono (by omega)) cx_takes (sk_cons (se_var (pv 1)) sk_nil) (by simp [md_NotFolded]))))) sss_nil) (sss_cons (ss_if (st_eq hr (se_var (pv 0)) se_str) (sss_one (ss_ret (se_if (st_lt (se_var (pv 2)) se_int) (se_mkX (mk_InvalidFar ev) (k := 0) (hr.mono (by omega)) cx_takes (sa_cons (se_var (pv 1)) sa_nil) (by simp [md_InvalidFar])) (se_mkXK0 (ks := ["at"]) (mk_InvalidFar ev) (k := 0) (hr.mono (by omega)) cx_takes (sk_cons (se_var (pv 1)) sk_nil) (by simp [md_InvalidFar]))))) sss_nil) (sss_cons (ss_if (st_eq hr (se_var (pv 0)) se_str) (sss_one (ss_ret (se_if (st_lt (se_var (pv 2)) se_int) (se_mkX (mk_NotFar ev) (k := 0) (hr.mono (by omega)) cx_takes (sa_cons (se_var (pv 1)) sa_nil) (by simp [md_NotFar])) (se_mkXK0 (ks := ["place"]) (mk_NotFar ev) (k := 0) (hr.mono (by omega)) cx_takes (sk_cons (se_var (pv 1)) sk_nil) (by simp [md_NotFar]))))) sss_nil) (sss_cons (ss_if (st_eq hr (se_var (pv 0)) se_str) (sss_one (ss_ret (se_if (st_lt (se_var (pv 2)) se_int) (se_mkX (mk_NotLed ev) (k := 0) (hr.mono (by omega)) cx_takes (sa_cons (se_var (pv 1)) sa_nil) (by simp [md_NotLed])) (se_mkXK0 (ks := ["first"]) (mk_NotLed ev) (k := 0) (hr.mono (by omega)) cx_takes (sk_cons (se_var (pv 1)) sk_nil) (by simp [md_NotLed]))))) sss_nil) (sss_cons (ss_if (st_eq hr (se_var (pv 0)) se_str) (sss_one (ss_ret (se_if (st_lt (se_var (pv 2)) se_int) (se_mkX (mk_NotInCrew ev) (k := 0) (hr.mono (by omega)) cx_takes (sa_cons (se_var (pv 1)) sa_nil) (by simp [md_NotInCrew])) (se_mkXK0 (ks := ["paper"]) (mk_NotInCrew ev) (k := 0) (hr.mono (by omega)) cx_takes (sk_cons (se_var (pv 1)) sk_nil) (by simp [md_NotInCrew]))))) sss_nil) (sss_cons (ss_if (st_eq hr (se_var (pv 0)) se_str) (sss_one (ss_ret (se_if (st_lt (se_var (pv 2)) se_int) (se_mkX (mk_InvalidName ev) (k := 0) (hr.mono (by omega)) cx_takes (sa_cons (se_var (pv 1)) sa_nil) (by simp [md_InvalidName])) (se_mkXK0 (ks := ["value"]) (mk_InvalidName ev) (k := 0) (hr.mono (by omega)) cx_takes (sk_cons (se_var (pv 1)) sk_nil) (by simp [md_InvalidName]))))) sss_nil) (sss_cons (ss_if (st_eq hr (se_var (pv 0)) se_str) (sss_one (ss_ret (se_if (st_lt (se_var (pv 2)) se_int) (se_mkX (mk_InvalidNames ev) (k := 0) (hr.mono (by omega)) cx_takes (sa_cons (se_var (pv 1)) sa_nil) (by simp [md_InvalidNames])) (se_mkXK0 (ks := ["at"]) (mk_InvalidNames ev) (k := 0) (hr.mono (by omega)) cx_takes (sk_cons (se_var (pv 1)) sk_nil) (by simp [md_InvalidNames]))))) sss_nil) (sss_cons (ss_if (st_eq hr (se_var (pv 0)) se_str) (sss_one (ss_ret (se_if (st_lt (se_var (pv 2)) se_int) (se_mkX (mk_InvalidWord ev) (k := 0) (hr.mono (by omega)) cx_takes (sa_cons (se_var (pv 1)) sa_nil) (by simp [md_InvalidWord])) (se_mkXK0 (ks := ["at"]) (mk_InvalidWord ev) (k := 0) (hr.mono (by omega)) cx_takes (sk_cons (se_var (pv 1)) sk_nil) (by simp [md_InvalidWord]))))) sss_nil) (sss_cons (ss_if (st_eq hr (se_var (pv 0)) se_str) (sss_one (ss_ret (se_if (st_lt (se_var (pv 2)) se_int) (se_mkX (mk_SameName ev) (k := 0) (hr.mono (by omega)) cx_takes (sa_cons (se_var (pv 1)) sa_nil) (by simp [md_SameName])) (se_mkXK0 (ks := ["name"]) (mk_SameName ev) (k := 0) (hr.mono (by omega)) cx_takes (sk_cons (se_var (pv 1)) sk_nil) (by simp [md_SameName]))))) sss_nil) (sss_cons (ss_if (st_eq hr (se_var (pv 0)) se_str) (sss_one (ss_ret (se_if (st_lt (se_var (pv 2)) se_int) (se_mkX (mk_InvalidPaper ev) (k := 0) (hr.mono (by omega)) cx_takes (sa_cons (se_var (pv 1)) sa_nil) (by simp [md_InvalidPaper])) (se_mkXK0 (ks := ["at"]) (mk_InvalidPaper ev) (k := 0) (hr.mono (by omega)) cx_takes (sk_cons (se_var (pv 1)) sk_nil) (by simp [md_InvalidPaper]))))) sss_nil) (sss_cons (ss_if (st_eq hr (se_var (pv 0)) se_str) (sss_one (ss_ret (se_if (st_lt (se_var (pv 2)) se_int) (se_mkX (mk_InvalidDeed ev) (k := 0) (hr.mono (by omega)) cx_takes (sa_cons (se_var (pv 1)) sa_nil) (by simp [md_InvalidDeed])) (se_mkXK0 (ks := ["at"]) (mk_InvalidDeed ev) (k := 0) (hr.mono (by omega)) cx_takes (sk_cons (se_var (pv 1)) sk_nil) (by simp [md_InvalidDeed]))))) sss_nil) (sss_cons (ss_if (st_eq hr (se_var (pv 0)) se_str) (sss_one (ss_ret (se_if (st_lt (se_var (pv 2)) se_int) (se_mkX (mk_InvalidLine ev) (k := 0) (hr.mono (by omega)) cx_takes (sa_cons (se_var (pv 1)) sa_nil) (by simp [md_InvalidLine])) (se_mkXK0 (ks := ["line"]) (mk_InvalidLine ev) (k := 0) (hr.mono (by omega)) cx_takes (sk_cons (se_var (pv 1)) sk_nil) (by simp [md_InvalidLine]))))) sss_nil) (sss_cons (ss_if (st_eq hr (se_var (pv 0)) se_str) (sss_one (ss_ret (se_if (st_lt (se_var (pv 2)) se_int) (se_mkX (mk_TooMany ev) (k := 0) (hr.mono (by omega)) cx_takes (sa_cons (se_var (pv 1)) sa_nil) (by simp [md_TooMany])) (se_mkXK0 (ks := ["most"]) (mk_TooMany ev) (k := 0) (hr.mono (by omega)) cx_takes (sk_cons (se_var (pv 1)) sk_nil) (by simp [md_TooMany]))))) sss_nil) (sss_cons (ss_if (st_eq hr (se_var (pv 0)) se_str) (sss_one (ss_ret (se_if (st_lt (se_var (pv 2)) se_int) (se_mkX (mk_Tied ev) (k := 0) (hr.mono (by omega)) cx_takes (sa_cons (se_var (pv 1)) sa_nil) (by simp [md_Tied])) (se_mkXK0 (ks := ["ties"]) (mk_Tied ev) (k := 0) (hr.mono (by omega)) cx_takes (sk_cons (se_var (pv 1)) sk_nil) (by simp [md_Tied]))))) sss_nil) (sss_cons (ss_if (st_eq hr (se_var (pv 0)) se_str) (sss_one (ss_ret (se_if (st_lt (se_var (pv 2)) se_int) (se_mkX (mk_UnknownName ev) (k := 0) (hr.mono (by omega)) cx_takes (sa_cons (se_var (pv 1)) sa_nil) (by simp [md_UnknownName])) (se_mkXK0 (ks := ["name"]) (mk_UnknownName ev) (k := 0) (hr.mono (by omega)) cx_takes (sk_cons (se_var (pv 1)) sk_nil) (by simp [md_UnknownName]))))) sss_nil) (sss_cons (ss_if (st_eq hr (se_var (pv 0)) se_str) (sss_one (ss_ret (se_if (st_lt (se_var (pv 2)) se_int) (se_mkX (mk_UnknownStep ev) (k := 0) (hr.mono (by omega)) cx_takes (sa_cons (se_var (pv 1)) sa_nil) (by simp [md_UnknownStep])) (se_mkXK0 (ks := ["at"]) (mk_UnknownStep ev) (k := 0) (hr.mono (by omega)) cx_takes (sk_cons (se_var (pv 1)) sk_nil) (by simp [md_UnknownStep]))))) sss_nil) (sss_one (ss_ret se_non))))))))))))))))))
abbrev N__law_both : List Str := ["_law_pick", "_law_a", "_law_b", "_law_way"]
abbrev st__law_both : Stmt := top 60
theorem sc__law_both : FnScope N__law_both ["_law_pick", "_law_a", "_law_b", "_law_way"] (defScope st__law_both) := ⟨rfl, rfl, rfl, by decide +kernel, rfl, by decide +kernel, by decide +kernel⟩
def m__law_both : Sm := (sSeq (sIf (tAnd (tOf (eBin eqD (eVar 0) (eC (.str "OrderTooLow")))) (tOf (eBin ltI (eVar 3) (eC (.int 2))))) (sRet (eIf (tOf (eBin eqD (eVar 3) (eC (.int 0)))) (eMk "OrderTooLow" tp_OrderTooLow 2 0 2 false (aCons (eVar 1) (aCons (eVar 2) aNil)) aNil) (eMk "OrderTooLow" tp_OrderTooLow 0 2 2 false aNil (aCons (eVar 1) (aCons (eVar 2) aNil))))) sNil) (sSeq (sIf (tOf (eBin eqD (eVar 0) (eC (.str "OrderTooLow")))) (sRet (eIf (tOf (eBin eqD (eVar 3) (eC (.int 2)))) (eMk "OrderTooLow" tp_OrderTooLow 0 2 2 true aNil (aCons (eVar 2) (aCons (eVar 1) aNil))) (eMk "OrderTooLow" tp_OrderTooLow 1 1 2 false (aCons (eVar 1) aNil) (aCons (eVar 2) aNil)))) sNil) (sSeq (sIf (tAnd (tOf (eBin eqD (eVar 0) (eC (.str "UnlikeOrders")))) (tOf (eBin ltI (eVar 3) (eC (.int 2))))) (sRet (eIf (tOf (eBin eqD (eVar 3) (eC (.int 0)))) (eMk "UnlikeOrders" tp_UnlikeOrders 2 0 2 false (aCons (eVar 1) (aCons (eVar 2) aNil)) aNil) (eMk "UnlikeOrders" tp_UnlikeOrders 0 2 2 false aNil (aCons (eVar 1) (aCons (eVar 2) aNil))))) sNil) (sSeq (sIf (tOf (eBin eqD (eVar 0) (eC (.str "UnlikeOrders")))) (sRet (eIf (tOf (eBin eqD (eVar 3) (eC (.int 2)))) (eMk "UnlikeOrders" tp_UnlikeOrders 0 2 2 true aNil (aCons (eVar 2) (aCons (eVar 1) aNil))) (eMk "UnlikeOrders" tp_UnlikeOrders 1 1 2 false (aCons (eVar 1) aNil) (aCons (eVar 2) aNil)))) sNil) (sSeq (sIf (tAnd (tOf (eBin eqD (eVar 0) (eC (.str "NotUnit")))) (tOf (eBin ltI (eVar 3) (eC (.int 2))))) (sRet (eIf (tOf (eBin eqD (eVar 3) (eC (.int 0)))) (eMk "NotUnit" tp_NotUnit 2 0 2 false (aCons (eVar 1) (aCons (eVar 2) aNil)) aNil) (eMk "NotUnit" tp_NotUnit 0 2 2 false aNil (aCons (eVar 1) (aCons (eVar 2) aNil))))) sNil) (sSeq (sIf (tOf (eBin eqD (eVar 0) (eC (.str "NotUnit")))) (sRet (eIf (tOf (eBin eqD (eVar 3) (eC (.int 2)))) (eMk "NotUnit" tp_NotUnit 0 2 2 true aNil (aCons (eVar 2) (aCons (eVar 1) aNil))) (eMk "NotUnit" tp_NotUnit 1 1 2 false (aCons (eVar 1) aNil) (aCons (eVar 2) aNil)))) sNil) (sSeq (sIf (tAnd (tOf (eBin eqD (eVar 0) (eC (.str "NotATable")))) (tOf (eBin ltI (eVar 3) (eC (.int 2))))) (sRet (eIf (tOf (eBin eqD (eVar 3) (eC (.int 0)))) (eMk "NotATable" tp_NotATable 2 0 2 false (aCons (eVar 1) (aCons (eVar 2) aNil)) aNil) (eMk "NotATable" tp_NotATable 0 2 2 false aNil (aCons (eVar 1) (aCons (eVar 2) aNil))))) sNil) (sSeq (sIf (tOf (eBin eqD (eVar 0) (eC (.str "NotATable")))) (sRet (eIf (tOf (eBin eqD (eVar 3) (eC (.int 2)))) (eMk "NotATable" tp_NotATable 0 2 2 true aNil (aCons (eVar 2) (aCons (eVar 1) aNil))) (eMk "NotATable" tp_NotATable 1 1 2 false (aCons (eVar 1) aNil) (aCons (eVar 2) aNil)))) sNil) (sSeq (sIf (tAnd (tOf (eBin eqD (eVar 0) (eC (.str "UnlikeFlats")))) (tOf (eBin ltI (eVar 3) (eC (.int 2))))) (sRet (eIf (tOf (eBin eqD (eVar 3) (eC (.int 0)))) (eMk "UnlikeFlats" tp_UnlikeFlats 2 0 2 false (aCons (eVar 1) (aCons (eVar 2) aNil)) aNil) (eMk "UnlikeFlats" tp_UnlikeFlats 0 2 2 false aNil (aCons (eVar 1) (aCons (eVar 2) aNil))))) sNil) (sSeq (sIf (tOf (eBin eqD (eVar 0) (eC (.str "UnlikeFlats")))) (sRet (eIf (tOf (eBin eqD (eVar 3) (eC (.int 2)))) (eMk "UnlikeFlats" tp_UnlikeFlats 0 2 2 true aNil (aCons (eVar 2) (aCons (eVar 1) aNil))) (eMk "UnlikeFlats" tp_UnlikeFlats 1 1 2 false (aCons (eVar 1) aNil) (aCons (eVar 2) aNil)))) sNil) (sSeq (sIf (tAnd (tOf (eBin eqD (eVar 0) (eC (.str "NotSquare")))) (tOf (eBin ltI (eVar 3) (eC (.int 2))))) (sRet (eIf (tOf (eBin eqD (eVar 3) (eC (.int 0)))) (eMk "NotSquare" tp_NotSquare 2 0 2 false (aCons (eVar 1) (aCons (eVar 2) aNil)) aNil) (eMk "NotSquare" tp_NotSquare 0 2 2 false aNil (aCons (eVar 1) (aCons (eVar 2) aNil))))) sNil) (sSeq (sIf (tOf (eBin eqD (eVar 0) (eC (.str "NotSquare")))) (sRet (eIf (tOf (eBin eqD (eVar 3) (eC (.int 2)))) (eMk "NotSquare" tp_NotSquare 0 2 2 true aNil (aCons (eVar 2) (aCons (eVar 1) aNil))) (eMk "NotSquare" tp_NotSquare 1 1 2 false (aCons (eVar 1) aNil) (aCons (eVar 2) aNil)))) sNil) (sRet (eC .non))))))))))))))
def f__law_both : List D → Sto → Res D := chk 4 (runDef 4 m__law_both)
theorem ok__law_both (ev : Ev K mg) : Fn P w K mg base "_law_both" 3 4 f__law_both := by
  obtain ⟨fd, F⟩ := ev.says.def_ D__law_both rfl
  refine fn_name (x := "_law_both") (N := N__law_both) (ps := ["_law_pick", "_law_a", "_law_b", "_law_way"]) F sc__law_both (ev.glo "_law_both") (F.bindsN fun _ _ _ _ _ _ us hl => match us, hl with | [_, _, _, _], _ => rfl) fun cdv A outer s H E hr => ?_
  exact (sss_cons (ss_if (st_sw (sw_and (st_eq hr (se_var (pv 0)) se_str) (sw_and1 (st_lt (se_var (pv 3)) se_int)))) (sss_one (ss_ret (se_if (st_eq hr (se_var (pv 3)) se_int) (se_mkX (mk_OrderTooLow ev) (k := 0) (hr.mono (by omega)) cx_takes (sa_cons (se_var (pv 1)) (sa_cons (se_var (pv 2)) sa_nil)) (by simp [md_OrderTooLow])) (se_mkXK0 (ks := ["have", "wanted"]) (mk_OrderTooLow ev) (k := 0) (hr.mono (by omega)) cx_takes (sk_cons (se_var (pv 1)) (sk_cons (se_var (pv 2)) sk_nil)) (by simp [md_OrderTooLow]))))) sss_nil) (sss_cons (ss_if (st_eq hr (se_var (pv 0)) se_str) (sss_one (ss_ret (se_if (st_eq hr (se_var (pv 3)) se_int) (se_mkXK0 (ks := ["wanted", "have"]) (mk_OrderTooLow ev) (k := 0) (hr.mono (by omega)) cx_takes (sk_cons (se_var (pv 2)) (sk_cons (se_var (pv 1)) sk_nil)) (by simp [md_OrderTooLow])) (se_mkXK (ks := ["wanted"]) (mk_OrderTooLow ev) (k := 0) (hr.mono (by omega)) cx_takes (sa_cons (se_var (pv 1)) sa_nil) (sk_cons (se_var (pv 2)) sk_nil) (by simp [md_OrderTooLow]))))) sss_nil) (sss_cons (ss_if (st_sw (sw_and (st_eq hr (se_var (pv 0)) se_str) (sw_and1 (st_lt (se_var (pv 3)) se_int)))) (sss_one (ss_ret (se_if (st_eq hr (se_var (pv 3)) se_int) (se_mkX (mk_UnlikeOrders ev) (k := 0) (hr.mono (by omega)) cx_takes (sa_cons (se_var (pv 1)) (sa_cons (se_var (pv 2)) sa_nil)) (by simp [md_UnlikeOrders])) (se_mkXK0 (ks := ["one", "other"]) (mk_UnlikeOrders ev) (k := 0) (hr.mono (by omega)) cx_takes (sk_cons (se_var (pv 1)) (sk_cons (se_var (pv 2)) sk_nil)) (by simp [md_UnlikeOrders]))))) sss_nil) (sss_cons (ss_if (st_eq hr (se_var (pv 0)) se_str) (sss_one (ss_ret (se_if (st_eq hr (se_var (pv 3)) se_int) (se_mkXK0 (ks := ["other", "one"]) (mk_UnlikeOrders ev) (k := 0) (hr.mono (by omega)) cx_takes (sk_cons (se_var (pv 2)) (sk_cons (se_var (pv 1)) sk_nil)) (by simp [md_UnlikeOrders])) (se_mkXK (ks := ["other"]) (mk_UnlikeOrders ev) (k := 0) (hr.mono (by omega)) cx_takes (sa_cons (se_var (pv 1)) sa_nil) (sk_cons (se_var (pv 2)) sk_nil) (by simp [md_UnlikeOrders]))))) sss_nil) (sss_cons (ss_if (st_sw (sw_and (st_eq hr (se_var (pv 0)) se_str) (sw_and1 (st_lt (se_var (pv 3)) se_int)))) (sss_one (ss_ret (se_if (st_eq hr (se_var (pv 3)) se_int) (se_mkX (mk_NotUnit ev) (k := 0) (hr.mono (by omega)) cx_takes (sa_cons (se_var (pv 1)) (sa_cons (se_var (pv 2)) sa_nil)) (by simp [md_NotUnit])) (se_mkXK0 (ks := ["line", "place"]) (mk_NotUnit ev) (k := 0) (hr.mono (by omega)) cx_takes (sk_cons (se_var (pv 1)) (sk_cons (se_var (pv 2)) sk_nil)) (by simp [md_NotUnit]))))) sss_nil) (sss_cons (ss_if (st_eq hr (se_var (pv 0)) se_str) (sss_one (ss_ret (se_if (st_eq hr (se_var (pv 3)) se_int) (se_mkXK0 (ks := ["place", "line"]) (mk_NotUnit ev) (k := 0) (hr.mono (by omega)) cx_takes (sk_cons (se_var (pv 2)) (sk_cons (se_var (pv 1)) sk_nil)) (by simp [md_NotUnit])) (se_mkXK (ks := ["place"]) (mk_NotUnit ev) (k := 0) (hr.mono (by omega)) cx_takes (sa_cons (se_var (pv 1)) sa_nil) (sk_cons (se_var (pv 2)) sk_nil) (by simp [md_NotUnit]))))) sss_nil) (sss_cons (ss_if (st_sw (sw_and (st_eq hr (se_var (pv 0)) se_str) (sw_and1 (st_lt (se_var (pv 3)) se_int)))) (sss_one (ss_ret (se_if (st_eq hr (se_var (pv 3)) se_int) (se_mkX (mk_NotATable ev) (k := 0) (hr.mono (by omega)) cx_takes (sa_cons (se_var (pv 1)) (sa_cons (se_var (pv 2)) sa_nil)) (by simp [md_NotATable])) (se_mkXK0 (ks := ["line", "place"]) (mk_NotATable ev) (k := 0) (hr.mono (by omega)) cx_takes (sk_cons (se_var (pv 1)) (sk_cons (se_var (pv 2)) sk_nil)) (by simp [md_NotATable]))))) sss_nil) (sss_cons (ss_if (st_eq hr (se_var (pv 0)) se_str) (sss_one (ss_ret (se_if (st_eq hr (se_var (pv 3)) se_int) (se_mkXK0 (ks := ["place", "line"]) (mk_NotATable ev) (k := 0) (hr.mono (by omega)) cx_takes (sk_cons (se_var (pv 2)) (sk_cons (se_var (pv 1)) sk_nil)) (by simp [md_NotATable])) (se_mkXK (ks := ["place"]) (mk_NotATable ev) (k := 0) (hr.mono (by omega)) cx_takes (sa_cons (se_var (pv 1)) sa_nil) (sk_cons (se_var (pv 2)) sk_nil) (by simp [md_NotATable]))))) sss_nil) (sss_cons (ss_if (st_sw (sw_and (st_eq hr (se_var (pv 0)) se_str) (sw_and1 (st_lt (se_var (pv 3)) se_int)))) (sss_one (ss_ret (se_if (st_eq hr (se_var (pv 3)) se_int) (se_mkX (mk_UnlikeFlats ev) (k := 0) (hr.mono (by omega)) cx_takes (sa_cons (se_var (pv 1)) (sa_cons (se_var (pv 2)) sa_nil)) (by simp [md_UnlikeFlats])) (se_mkXK0 (ks := ["one", "other"]) (mk_UnlikeFlats ev) (k := 0) (hr.mono (by omega)) cx_takes (sk_cons (se_var (pv 1)) (sk_cons (se_var (pv 2)) sk_nil)) (by simp [md_UnlikeFlats]))))) sss_nil) (sss_cons (ss_if (st_eq hr (se_var (pv 0)) se_str) (sss_one (ss_ret (se_if (st_eq hr (se_var (pv 3)) se_int) (se_mkXK0 (ks := ["other", "one"]) (mk_UnlikeFlats ev) (k := 0) (hr.mono (by omega)) cx_takes (sk_cons (se_var (pv 2)) (sk_cons (se_var (pv 1)) sk_nil)) (by simp [md_UnlikeFlats])) (se_mkXK (ks := ["other"]) (mk_UnlikeFlats ev) (k := 0) (hr.mono (by omega)) cx_takes (sa_cons (se_var (pv 1)) sa_nil) (sk_cons (se_var (pv 2)) sk_nil) (by simp [md_UnlikeFlats]))))) sss_nil) (sss_cons (ss_if (st_sw (sw_and (st_eq hr (se_var (pv 0)) se_str) (sw_and1 (st_lt (se_var (pv 3)) se_int)))) (sss_one (ss_ret (se_if (st_eq hr (se_var (pv 3)) se_int) (se_mkX (mk_NotSquare ev) (k := 0) (hr.mono (by omega)) cx_takes (sa_cons (se_var (pv 1)) (sa_cons (se_var (pv 2)) sa_nil)) (by simp [md_NotSquare])) (se_mkXK0 (ks := ["equations", "unknowns"]) (mk_NotSquare ev) (k := 0) (hr.mono (by omega)) cx_takes (sk_cons (se_var (pv 1)) (sk_cons (se_var (pv 2)) sk_nil)) (by simp [md_NotSquare]))))) sss_nil) (sss_cons (ss_if (st_eq hr (se_var (pv 0)) se_str) (sss_one (ss_ret (se_if (st_eq hr (se_var (pv 3)) se_int) (se_mkXK0 (ks := ["unknowns", "equations"]) (mk_NotSquare ev) (k := 0) (hr.mono (by omega)) cx_takes (sk_cons (se_var (pv 2)) (sk_cons (se_var (pv 1)) sk_nil)) (by simp [md_NotSquare])) (se_mkXK (ks := ["unknowns"]) (mk_NotSquare ev) (k := 0) (hr.mono (by omega)) cx_takes (sa_cons (se_var (pv 1)) sa_nil) (sk_cons (se_var (pv 2)) sk_nil) (by simp [md_NotSquare]))))) sss_nil) (sss_one (ss_ret se_non))))))))))))))
abbrev N__law_bare : List Str := ["_law_pick"]
abbrev st__law_bare : Stmt := top 61
theorem sc__law_bare : FnScope N__law_bare ["_law_pick"] (defScope st__law_bare) := ⟨rfl, rfl, rfl, by decide +kernel, rfl, by decide +kernel, by decide +kernel⟩
def m__law_bare : Sm := (sSeq (sIf (tOf (eBin eqD (eVar 0) (eC (.str "CantTurn")))) (sRet (eMk "CantTurn" tp_CantTurn 0 0 0 false aNil aNil)) sNil) (sSeq (sIf (tOf (eBin eqD (eVar 0) (eC (.str "DividedByZero")))) (sRet (eMk "DividedByZero" tp_DividedByZero 0 0 0 false aNil aNil)) sNil) (sSeq (sIf (tOf (eBin eqD (eVar 0) (eC (.str "NotAClock")))) (sRet (eMk "NotAClock" tp_NotAClock 0 0 0 false aNil aNil)) sNil) (sSeq (sIf (tOf (eBin eqD (eVar 0) (eC (.str "NoFlips")))) (sRet (eMk "NoFlips" tp_NoFlips 0 0 0 false aNil aNil)) sNil) (sSeq (sIf (tOf (eBin eqD (eVar 0) (eC (.str "InCrew")))) (sRet (eMk "InCrew" tp_InCrew 0 0 0 false aNil aNil)) sNil) (sSeq (sIf (tOf (eBin eqD (eVar 0) (eC (.str "NotOpen")))) (sRet (eMk "NotOpen" tp_NotOpen 0 0 0 false aNil aNil)) sNil) (sSeq (sIf (tOf (eBin eqD (eVar 0) (eC (.str "InvalidStep")))) (sRet (eMk "InvalidStep" tp_InvalidStep 0 0 0 false aNil aNil)) sNil) (sSeq (sIf (tOf (eBin eqD (eVar 0) (eC (.str "Solved")))) (sRet (eMk "Solved" tp_Solved 0 0 0 false aNil aNil)) sNil) (sSeq (sIf (tOf (eBin eqD (eVar 0) (eC (.str "NothingLeft")))) (sRet (eMk "NothingLeft" tp_NothingLeft 0 0 0 false aNil aNil)) sNil) (sRet (eC .non)))))))))))
def f__law_bare : List D → Sto → Res D := chk 1 (runDef 1 m__law_bare)
theorem ok__law_bare (ev : Ev K mg) : Fn P w K mg base "_law_bare" 3 1 f__law_bare := by
  obtain ⟨fd, F⟩ := ev.says.def_ D__law_bare rfl
  refine fn_name (x := "_law_bare") (N := N__law_bare) (ps := ["_law_pick"]) F sc__law_bare (ev.glo "_law_bare") (F.bindsN fun _ _ _ _ _ _ us hl => match us, hl with | [_], _ => rfl) fun cdv A outer s H E hr => ?_
  exact (sss_cons (ss_if (st_eq hr (se_var (pv 0)) se_str) (sss_one (ss_ret (se_mkX0 (mk_CantTurn ev) (k := 0) (hr.mono (by omega)) cx_takes (by simp [md_CantTurn])))) sss_nil) (sss_cons (ss_if (st_eq hr (se_var (pv 0)) se_str) (sss_one (ss_ret (se_mkX0 (mk_DividedByZero ev) (k := 0) (hr.mono (by omega)) cx_takes (by simp [md_DividedByZero])))) sss_nil) (sss_cons (ss_if (st_eq hr (se_var (pv 0)) se_str) (sss_one (ss_ret (se_mkX0 (mk_NotAClock ev) (k := 0) (hr.mono (by omega)) cx_takes (by simp [md_NotAClock])))) sss_nil) (sss_cons (ss_if (st_eq hr (se_var (pv 0)) se_str) (sss_one (ss_ret (se_mkX0 (mk_NoFlips ev) (k := 0) (hr.mono (by omega)) cx_takes (by simp [md_NoFlips])))) sss_nil) (sss_cons (ss_if (st_eq hr (se_var (pv 0)) se_str) (sss_one (ss_ret (se_mkX0 (mk_InCrew ev) (k := 0) (hr.mono (by omega)) cx_takes (by simp [md_InCrew])))) sss_nil) (sss_cons (ss_if (st_eq hr (se_var (pv 0)) se_str) (sss_one (ss_ret (se_mkX0 (mk_NotOpen ev) (k := 0) (hr.mono (by omega)) cx_takes (by simp [md_NotOpen])))) sss_nil) (sss_cons (ss_if (st_eq hr (se_var (pv 0)) se_str) (sss_one (ss_ret (se_mkX0 (mk_InvalidStep ev) (k := 0) (hr.mono (by omega)) cx_takes (by simp [md_InvalidStep])))) sss_nil) (sss_cons (ss_if (st_eq hr (se_var (pv 0)) se_str) (sss_one (ss_ret (se_mkX0 (mk_Solved ev) (k := 0) (hr.mono (by omega)) cx_takes (by simp [md_Solved])))) sss_nil) (sss_cons (ss_if (st_eq hr (se_var (pv 0)) se_str) (sss_one (ss_ret (se_mkX0 (mk_NothingLeft ev) (k := 0) (hr.mono (by omega)) cx_takes (by simp [md_NothingLeft])))) sss_nil) (sss_one (ss_ret se_non)))))))))))
abbrev N__law_told : List Str := ["_law_error", "_law_words_here", "_law_some", "_law_word"]
abbrev st__law_told : Stmt := top 62
theorem sc__law_told : FnScope N__law_told ["_law_error", "_law_words_here"] (defScope st__law_told) := ⟨rfl, rfl, rfl, by decide +kernel, rfl, by decide +kernel, by decide +kernel⟩
def m__law_told : Sm := (sSeq (sSet 2 (eLst true (aCons (eUn (attD "code") (eVar 0)) aNil))) (sSeq (sFor (iVal (eVar 1)) (gN 3) (sIf (tOf (eBin eqD (eVar 3) (eC (.str "value")))) (sExpr (eBM "list" (mutD fAppend) (eVar 2) (aCons (eUn (attD "value") (eVar 0)) aNil))) (sIf (tOf (eBin eqD (eVar 3) (eC (.str "at")))) (sExpr (eBM "list" (mutD fAppend) (eVar 2) (aCons (eUn (attD "at") (eVar 0)) aNil))) (sIf (tOf (eBin eqD (eVar 3) (eC (.str "have")))) (sExpr (eBM "list" (mutD fAppend) (eVar 2) (aCons (eUn (attD "have") (eVar 0)) aNil))) (sIf (tOf (eBin eqD (eVar 3) (eC (.str "wanted")))) (sExpr (eBM "list" (mutD fAppend) (eVar 2) (aCons (eUn (attD "wanted") (eVar 0)) aNil))) (sIf (tOf (eBin eqD (eVar 3) (eC (.str "one")))) (sExpr (eBM "list" (mutD fAppend) (eVar 2) (aCons (eUn (attD "one") (eVar 0)) aNil))) (sIf (tOf (eBin eqD (eVar 3) (eC (.str "other")))) (sExpr (eBM "list" (mutD fAppend) (eVar 2) (aCons (eUn (attD "other") (eVar 0)) aNil))) (sIf (tOf (eBin eqD (eVar 3) (eC (.str "first")))) (sExpr (eBM "list" (mutD fAppend) (eVar 2) (aCons (eUn (attD "first") (eVar 0)) aNil))) (sIf (tOf (eBin eqD (eVar 3) (eC (.str "line")))) (sExpr (eBM "list" (mutD fAppend) (eVar 2) (aCons (eUn (attD "line") (eVar 0)) aNil))) (sIf (tOf (eBin eqD (eVar 3) (eC (.str "place")))) (sExpr (eBM "list" (mutD fAppend) (eVar 2) (aCons (eUn (attD "place") (eVar 0)) aNil))) (sIf (tOf (eBin eqD (eVar 3) (eC (.str "paper")))) (sExpr (eBM "list" (mutD fAppend) (eVar 2) (aCons (eUn (attD "paper") (eVar 0)) aNil))) (sIf (tOf (eBin eqD (eVar 3) (eC (.str "name")))) (sExpr (eBM "list" (mutD fAppend) (eVar 2) (aCons (eUn (attD "name") (eVar 0)) aNil))) (sIf (tOf (eBin eqD (eVar 3) (eC (.str "most")))) (sExpr (eBM "list" (mutD fAppend) (eVar 2) (aCons (eUn (attD "most") (eVar 0)) aNil))) (sIf (tOf (eBin eqD (eVar 3) (eC (.str "ties")))) (sExpr (eBM "list" (mutD fAppend) (eVar 2) (aCons (eUn (attD "ties") (eVar 0)) aNil))) (sIf (tOf (eBin eqD (eVar 3) (eC (.str "equations")))) (sExpr (eBM "list" (mutD fAppend) (eVar 2) (aCons (eUn (attD "equations") (eVar 0)) aNil))) (sIf (tOf (eBin eqD (eVar 3) (eC (.str "unknowns")))) (sExpr (eBM "list" (mutD fAppend) (eVar 2) (aCons (eUn (attD "unknowns") (eVar 0)) aNil))) sNil)))))))))))))))) (sRet (eFrz (eVar 2)))))
def f__law_told : List D → Sto → Res D := chk 2 (runDef 4 m__law_told)
theorem ok__law_told (ev : Ev K mg) : Fn P w K mg base "_law_told" 1 2 f__law_told := by
  obtain ⟨fd, F⟩ := ev.says.def_ D__law_told rfl
  refine fn_name (x := "_law_told") (N := N__law_told) (ps := ["_law_error", "_law_words_here"]) F sc__law_told (ev.glo "_law_told") (F.bindsN fun _ _ _ _ _ _ us hl => match us, hl with | [_, _], _ => rfl) fun cdv A outer s H E hr => ?_
  exact (sss_cons (ss_set sc__law_told.nd (i := 2) rfl (by first | exact Or.inl rfl | exact Or.inr rfl) (se_lst (k := true) (sa_cons (se_att (se_var (pv 0))) sa_nil))) (sss_cons (ss_for cx_own rfl (si_val (se_var (pv 1))) (sg_name (i := 3) sc__law_told.nd rfl (by first | exact Or.inl rfl | exact Or.inr rfl)) (sss_one (ss_if (st_eq hr (se_var (pv 3)) se_str) (sss_one (ss_expr (se_bm PySem.F.plainAttrs_list PySem.F.slot_list_append PySem.F.type_list_append mt_append gmt_append (se_var (pv 2)) (sa_cons (se_att (se_var (pv 0))) sa_nil)))) (sss_one (ss_if (st_eq hr (se_var (pv 3)) se_str) (sss_one (ss_expr (se_bm PySem.F.plainAttrs_list PySem.F.slot_list_append PySem.F.type_list_append mt_append gmt_append (se_var (pv 2)) (sa_cons (se_att (se_var (pv 0))) sa_nil)))) (sss_one (ss_if (st_eq hr (se_var (pv 3)) se_str) (sss_one (ss_expr (se_bm PySem.F.plainAttrs_list PySem.F.slot_list_append PySem.F.type_list_append mt_append gmt_append (se_var (pv 2)) (sa_cons (se_att (se_var (pv 0))) sa_nil)))) (sss_one (ss_if (st_eq hr (se_var (pv 3)) se_str) (sss_one (ss_expr (se_bm PySem.F.plainAttrs_list PySem.F.slot_list_append PySem.F.type_list_append mt_append gmt_append (se_var (pv 2)) (sa_cons (se_att (se_var (pv 0))) sa_nil)))) (sss_one (ss_if (st_eq hr (se_var (pv 3)) se_str) (sss_one (ss_expr (se_bm PySem.F.plainAttrs_list PySem.F.slot_list_append PySem.F.type_list_append mt_append gmt_append (se_var (pv 2)) (sa_cons (se_att (se_var (pv 0))) sa_nil)))) (sss_one (ss_if (st_eq hr (se_var (pv 3)) se_str) (sss_one (ss_expr (se_bm PySem.F.plainAttrs_list PySem.F.slot_list_append PySem.F.type_list_append mt_append gmt_append (se_var (pv 2)) (sa_cons (se_att (se_var (pv 0))) sa_nil)))) (sss_one (ss_if (st_eq hr (se_var (pv 3)) se_str) (sss_one (ss_expr (se_bm PySem.F.plainAttrs_list PySem.F.slot_list_append PySem.F.type_list_append mt_append gmt_append (se_var (pv 2)) (sa_cons (se_att (se_var (pv 0))) sa_nil)))) (sss_one (ss_if (st_eq hr (se_var (pv 3)) se_str) (sss_one (ss_expr (se_bm PySem.F.plainAttrs_list PySem.F.slot_list_append PySem.F.type_list_append mt_append gmt_append (se_var (pv 2)) (sa_cons (se_att (se_var (pv 0))) sa_nil)))) (sss_one (ss_if (st_eq hr (se_var (pv 3)) se_str) (sss_one (ss_expr (se_bm PySem.F.plainAttrs_list PySem.F.slot_list_append PySem.F.type_list_append mt_append gmt_append (se_var (pv 2)) (sa_cons (se_att (se_var (pv 0))) sa_nil)))) (sss_one (ss_if (st_eq hr (se_var (pv 3)) se_str) (sss_one (ss_expr (se_bm PySem.F.plainAttrs_list PySem.F.slot_list_append PySem.F.type_list_append mt_append gmt_append (se_var (pv 2)) (sa_cons (se_att (se_var (pv 0))) sa_nil)))) (sss_one (ss_if (st_eq hr (se_var (pv 3)) se_str) (sss_one (ss_expr (se_bm PySem.F.plainAttrs_list PySem.F.slot_list_append PySem.F.type_list_append mt_append gmt_append (se_var (pv 2)) (sa_cons (se_att (se_var (pv 0))) sa_nil)))) (sss_one (ss_if (st_eq hr (se_var (pv 3)) se_str) (sss_one (ss_expr (se_bm PySem.F.plainAttrs_list PySem.F.slot_list_append PySem.F.type_list_append mt_append gmt_append (se_var (pv 2)) (sa_cons (se_att (se_var (pv 0))) sa_nil)))) (sss_one (ss_if (st_eq hr (se_var (pv 3)) se_str) (sss_one (ss_expr (se_bm PySem.F.plainAttrs_list PySem.F.slot_list_append PySem.F.type_list_append mt_append gmt_append (se_var (pv 2)) (sa_cons (se_att (se_var (pv 0))) sa_nil)))) (sss_one (ss_if (st_eq hr (se_var (pv 3)) se_str) (sss_one (ss_expr (se_bm PySem.F.plainAttrs_list PySem.F.slot_list_append PySem.F.type_list_append mt_append gmt_append (se_var (pv 2)) (sa_cons (se_att (se_var (pv 0))) sa_nil)))) (sss_one (ss_if (st_eq hr (se_var (pv 3)) se_str) (sss_one (ss_expr (se_bm PySem.F.plainAttrs_list PySem.F.slot_list_append PySem.F.type_list_append mt_append gmt_append (se_var (pv 2)) (sa_cons (se_att (se_var (pv 0))) sa_nil)))) sss_nil))))))))))))))))))))))))))))))) (sss_one (ss_ret (se_frz (se_var (pv 2)))))))
abbrev N__law_kinds : List Str := ["_law_error", "_law_some", "_law_pair"]
abbrev st__law_kinds : Stmt := top 63
theorem sc__law_kinds : FnScope N__law_kinds ["_law_error"] (defScope st__law_kinds) := ⟨rfl, rfl, rfl, by decide +kernel, rfl, by decide +kernel, by decide +kernel⟩
def m__law_kinds : Sm := (sSeq (sSet 1 (eLst true aNil)) (sSeq (sExpr (eBM "list" (mutD fAppend) (eVar 1) (aCons (eTup (aCons (eC (.str "InvalidNumber")) (aCons (eUn (isiD (isO ancO leafs "InvalidNumber")) (eVar 0)) aNil))) aNil))) (sSeq (sExpr (eBM "list" (mutD fAppend) (eVar 1) (aCons (eTup (aCons (eC (.str "InvalidFraction")) (aCons (eUn (isiD (isO ancO leafs "InvalidFraction")) (eVar 0)) aNil))) aNil))) (sSeq (sExpr (eBM "list" (mutD fAppend) (eVar 1) (aCons (eTup (aCons (eC (.str "InvalidOrder")) (aCons (eUn (isiD (isO ancO leafs "InvalidOrder")) (eVar 0)) aNil))) aNil))) (sSeq (sExpr (eBM "list" (mutD fAppend) (eVar 1) (aCons (eTup (aCons (eC (.str "OrderTooLow")) (aCons (eUn (isiD (isO ancO leafs "OrderTooLow")) (eVar 0)) aNil))) aNil))) (sSeq (sExpr (eBM "list" (mutD fAppend) (eVar 1) (aCons (eTup (aCons (eC (.str "UnlikeOrders")) (aCons (eUn (isiD (isO ancO leafs "UnlikeOrders")) (eVar 0)) aNil))) aNil))) (sSeq (sExpr (eBM "list" (mutD fAppend) (eVar 1) (aCons (eTup (aCons (eC (.str "InvalidPlace")) (aCons (eUn (isiD (isO ancO leafs "InvalidPlace")) (eVar 0)) aNil))) aNil))) (sSeq (sExpr (eBM "list" (mutD fAppend) (eVar 1) (aCons (eTup (aCons (eC (.str "InvalidPower")) (aCons (eUn (isiD (isO ancO leafs "InvalidPower")) (eVar 0)) aNil))) aNil))) (sSeq (sExpr (eBM "list" (mutD fAppend) (eVar 1) (aCons (eTup (aCons (eC (.str "InvalidTimes")) (aCons (eUn (isiD (isO ancO leafs "InvalidTimes")) (eVar 0)) aNil))) aNil))) (sSeq (sExpr (eBM "list" (mutD fAppend) (eVar 1) (aCons (eTup (aCons (eC (.str "InvalidText")) (aCons (eUn (isiD (isO ancO leafs "InvalidText")) (eVar 0)) aNil))) aNil))) (sSeq (sExpr (eBM "list" (mutD fAppend) (eVar 1) (aCons (eTup (aCons (eC (.str "InvalidTable")) (aCons (eUn (isiD (isO ancO leafs "InvalidTable")) (eVar 0)) aNil))) aNil))) (sSeq (sExpr (eBM "list" (mutD fAppend) (eVar 1) (aCons (eTup (aCons (eC (.str "CantTurn")) (aCons (eUn (isiD (isO ancO leafs "CantTurn")) (eVar 0)) aNil))) aNil))) (sSeq (sExpr (eBM "list" (mutD fAppend) (eVar 1) (aCons (eTup (aCons (eC (.str "NotSlow")) (aCons (eUn (isiD (isO ancO leafs "NotSlow")) (eVar 0)) aNil))) aNil))) (sSeq (sExpr (eBM "list" (mutD fAppend) (eVar 1) (aCons (eTup (aCons (eC (.str "NotOne")) (aCons (eUn (isiD (isO ancO leafs "NotOne")) (eVar 0)) aNil))) aNil))) (sSeq (sExpr (eBM "list" (mutD fAppend) (eVar 1) (aCons (eTup (aCons (eC (.str "NotUnit")) (aCons (eUn (isiD (isO ancO leafs "NotUnit")) (eVar 0)) aNil))) aNil))) (sSeq (sExpr (eBM "list" (mutD fAppend) (eVar 1) (aCons (eTup (aCons (eC (.str "NotATable")) (aCons (eUn (isiD (isO ancO leafs "NotATable")) (eVar 0)) aNil))) aNil))) (sSeq (sExpr (eBM "list" (mutD fAppend) (eVar 1) (aCons (eTup (aCons (eC (.str "DividedByZero")) (aCons (eUn (isiD (isO ancO leafs "DividedByZero")) (eVar 0)) aNil))) aNil))) (sSeq (sExpr (eBM "list" (mutD fAppend) (eVar 1) (aCons (eTup (aCons (eC (.str "IsStill")) (aCons (eUn (isiD (isO ancO leafs "IsStill")) (eVar 0)) aNil))) aNil))) (sSeq (sExpr (eBM "list" (mutD fAppend) (eVar 1) (aCons (eTup (aCons (eC (.str "NotAFlow")) (aCons (eUn (isiD (isO ancO leafs "NotAFlow")) (eVar 0)) aNil))) aNil))) (sSeq (sExpr (eBM "list" (mutD fAppend) (eVar 1) (aCons (eTup (aCons (eC (.str "InvalidFlat")) (aCons (eUn (isiD (isO ancO leafs "InvalidFlat")) (eVar 0)) aNil))) aNil))) (sSeq (sExpr (eBM "list" (mutD fAppend) (eVar 1) (aCons (eTup (aCons (eC (.str "NotAClock")) (aCons (eUn (isiD (isO ancO leafs "NotAClock")) (eVar 0)) aNil))) aNil))) (sSeq (sExpr (eBM "list" (mutD fAppend) (eVar 1) (aCons (eTup (aCons (eC (.str "UnlikeFlats")) (aCons (eUn (isiD (isO ancO leafs "UnlikeFlats")) (eVar 0)) aNil))) aNil))) (sSeq (sExpr (eBM "list" (mutD fAppend) (eVar 1) (aCons (eTup (aCons (eC (.str "NotAlike")) (aCons (eUn (isiD (isO ancO leafs "NotAlike")) (eVar 0)) aNil))) aNil))) (sSeq (sExpr (eBM "list" (mutD fAppend) (eVar 1) (aCons (eTup (aCons (eC (.str "InvalidLead")) (aCons (eUn (isiD (isO ancO leafs "InvalidLead")) (eVar 0)) aNil))) aNil))) (sSeq (sExpr (eBM "list" (mutD fAppend) (eVar 1) (aCons (eTup (aCons (eC (.str "InvalidTime")) (aCons (eUn (isiD (isO ancO leafs "InvalidTime")) (eVar 0)) aNil))) aNil))) (sSeq (sExpr (eBM "list" (mutD fAppend) (eVar 1) (aCons (eTup (aCons (eC (.str "InvalidTop")) (aCons (eUn (isiD (isO ancO leafs "InvalidTop")) (eVar 0)) aNil))) aNil))) (sSeq (sExpr (eBM "list" (mutD fAppend) (eVar 1) (aCons (eTup (aCons (eC (.str "NotInFamily")) (aCons (eUn (isiD (isO ancO leafs "NotInFamily")) (eVar 0)) aNil))) aNil))) (sSeq (sExpr (eBM "list" (mutD fAppend) (eVar 1) (aCons (eTup (aCons (eC (.str "NoFlips")) (aCons (eUn (isiD (isO ancO leafs "NoFlips")) (eVar 0)) aNil))) aNil))) (sSeq (sExpr (eBM "list" (mutD fAppend) (eVar 1) (aCons (eTup (aCons (eC (.str "NotFolded")) (aCons (eUn (isiD (isO ancO leafs "NotFolded")) (eVar 0)) aNil))) aNil))) (sSeq (sExpr (eBM "list" (mutD fAppend) (eVar 1) (aCons (eTup (aCons (eC (.str "InvalidFar")) (aCons (eUn (isiD (isO ancO leafs "InvalidFar")) (eVar 0)) aNil))) aNil))) (sSeq (sExpr (eBM "list" (mutD fAppend) (eVar 1) (aCons (eTup (aCons (eC (.str "NotFar")) (aCons (eUn (isiD (isO ancO leafs "NotFar")) (eVar 0)) aNil))) aNil))) (sRet (eComp false [2] (iVal (eFrz (eVar 1))) (gN 2) (tOf (eBin ixD (eVar 2) (eC (.int 1)))) (eBin ixD (eVar 2) (eC (.int 0))))))))))))))))))))))))))))))))))))
def f__law_kinds : List D → Sto → Res D := chk 1 (runDef 3 m__law_kinds)
theorem ok__law_kinds (ev : Ev K mg) : Fn P w K mg base "_law_kinds" 1 1 f__law_kinds := by
  obtain ⟨fd, F⟩ := ev.says.def_ D__law_kinds rfl
  refine fn_name (x := "_law_kinds") (N := N__law_kinds) (ps := ["_law_error"]) F sc__law_kinds (ev.glo "_law_kinds") (F.bindsN fun _ _ _ _ _ _ us hl => match us, hl with | [_], _ => rfl) fun cdv A outer s H E hr => ?_
  exact (sss_cons (ss_set sc__law_kinds.nd (i := 1) rfl (by first | exact Or.inl rfl | exact Or.inr rfl) (se_lst (k := true) sa_nil)) (sss_cons (ss_expr (se_bm PySem.F.plainAttrs_list PySem.F.slot_list_append PySem.F.type_list_append mt_append gmt_append (se_var (pv 1)) (sa_cons (se_tup (sa_cons se_str (sa_cons (se_isi (ev.free "isinstance") (se_var (pv 0)) (cls_own (ev.glo "InvalidNumber")) (isO_ok ev.tab anc_ok (by decide +kernel))) sa_nil))) sa_nil))) (sss_cons (ss_expr (se_bm PySem.F.plainAttrs_list PySem.F.slot_list_append PySem.F.type_list_append mt_append gmt_append (se_var (pv 1)) (sa_cons (se_tup (sa_cons se_str (sa_cons (se_isi (ev.free "isinstance") (se_var (pv 0)) (cls_own (ev.glo "InvalidFraction")) (isO_ok ev.tab anc_ok (by decide +kernel))) sa_nil))) sa_nil))) (sss_cons (ss_expr (se_bm PySem.F.plainAttrs_list PySem.F.slot_list_append PySem.F.type_list_append mt_append gmt_append (se_var (pv 1)) (sa_cons (se_tup (sa_cons se_str (sa_cons (se_isi (ev.free "isinstance") (se_var (pv 0)) (cls_own (ev.glo "InvalidOrder")) (isO_ok ev.tab anc_ok (by decide +kernel))) sa_nil))) sa_nil))) (sss_cons (ss_expr (se_bm PySem.F.plainAttrs_list PySem.F.slot_list_append PySem.F.type_list_append mt_append gmt_append (se_var (pv 1)) (sa_cons (se_tup (sa_cons se_str (sa_cons (se_isi (ev.free "isinstance") (se_var (pv 0)) (cls_own (ev.glo "OrderTooLow")) (isO_ok ev.tab anc_ok (by decide +kernel))) sa_nil))) sa_nil))) (sss_cons (ss_expr (se_bm PySem.F.plainAttrs_list PySem.F.slot_list_append PySem.F.type_list_append mt_append gmt_append (se_var (pv 1)) (sa_cons (se_tup (sa_cons se_str (sa_cons (se_isi (ev.free "isinstance") (se_var (pv 0)) (cls_own (ev.glo "UnlikeOrders")) (isO_ok ev.tab anc_ok (by decide +kernel))) sa_nil))) sa_nil))) (sss_cons (ss_expr (se_bm PySem.F.plainAttrs_list PySem.F.slot_list_append PySem.F.type_list_append mt_append gmt_append (se_var (pv 1)) (sa_cons (se_tup (sa_cons se_str (sa_cons (se_isi (ev.free "isinstance") (se_var (pv 0)) (cls_own (ev.glo "InvalidPlace")) (isO_ok ev.tab anc_ok (by decide +kernel))) sa_nil))) sa_nil))) (sss_cons (ss_expr (se_bm PySem.F.plainAttrs_list PySem.F.slot_list_append PySem.F.type_list_append mt_append gmt_append (se_var (pv 1)) (sa_cons (se_tup (sa_cons se_str (sa_cons (se_isi (ev.free "isinstance") (se_var (pv 0)) (cls_own (ev.glo "InvalidPower")) (isO_ok ev.tab anc_ok (by decide +kernel))) sa_nil))) sa_nil))) (sss_cons (ss_expr (se_bm PySem.F.plainAttrs_list PySem.F.slot_list_append PySem.F.type_list_append mt_append gmt_append (se_var (pv 1)) (sa_cons (se_tup (sa_cons se_str (sa_cons (se_isi (ev.free "isinstance") (se_var (pv 0)) (cls_own (ev.glo "InvalidTimes")) (isO_ok ev.tab anc_ok (by decide +kernel))) sa_nil))) sa_nil))) (sss_cons (ss_expr (se_bm PySem.F.plainAttrs_list PySem.F.slot_list_append PySem.F.type_list_append mt_append gmt_append (se_var (pv 1)) (sa_cons (se_tup (sa_cons se_str (sa_cons (se_isi (ev.free "isinstance") (se_var (pv 0)) (cls_own (ev.glo "InvalidText")) (isO_ok ev.tab anc_ok (by decide +kernel))) sa_nil))) sa_nil))) (sss_cons (ss_expr (se_bm PySem.F.plainAttrs_list PySem.F.slot_list_append PySem.F.type_list_append mt_append gmt_append (se_var (pv 1)) (sa_cons (se_tup (sa_cons se_str (sa_cons (se_isi (ev.free "isinstance") (se_var (pv 0)) (cls_own (ev.glo "InvalidTable")) (isO_ok ev.tab anc_ok (by decide +kernel))) sa_nil))) sa_nil))) (sss_cons (ss_expr (se_bm PySem.F.plainAttrs_list PySem.F.slot_list_append PySem.F.type_list_append mt_append gmt_append (se_var (pv 1)) (sa_cons (se_tup (sa_cons se_str (sa_cons (se_isi (ev.free "isinstance") (se_var (pv 0)) (cls_own (ev.glo "CantTurn")) (isO_ok ev.tab anc_ok (by decide +kernel))) sa_nil))) sa_nil))) (sss_cons (ss_expr (se_bm PySem.F.plainAttrs_list PySem.F.slot_list_append PySem.F.type_list_append mt_append gmt_append (se_var (pv 1)) (sa_cons (se_tup (sa_cons se_str (sa_cons (se_isi (ev.free "isinstance") (se_var (pv 0)) (cls_own (ev.glo "NotSlow")) (isO_ok ev.tab anc_ok (by decide +kernel))) sa_nil))) sa_nil))) (sss_cons (ss_expr (se_bm PySem.F.plainAttrs_list PySem.F.slot_list_append PySem.F.type_list_append mt_append gmt_append (se_var (pv 1)) (sa_cons (se_tup (sa_cons se_str (sa_cons (se_isi (ev.free "isinstance") (se_var (pv 0)) (cls_own (ev.glo "NotOne")) (isO_ok ev.tab anc_ok (by decide +kernel))) sa_nil))) sa_nil))) (sss_cons (ss_expr (se_bm PySem.F.plainAttrs_list PySem.F.slot_list_append PySem.F.type_list_append mt_append gmt_append (se_var (pv 1)) (sa_cons (se_tup (sa_cons se_str (sa_cons (se_isi (ev.free "isinstance") (se_var (pv 0)) (cls_own (ev.glo "NotUnit")) (isO_ok ev.tab anc_ok (by decide +kernel))) sa_nil))) sa_nil))) (sss_cons (ss_expr (se_bm PySem.F.plainAttrs_list PySem.F.slot_list_append PySem.F.type_list_append mt_append gmt_append (se_var (pv 1)) (sa_cons (se_tup (sa_cons se_str (sa_cons (se_isi (ev.free "isinstance") (se_var (pv 0)) (cls_own (ev.glo "NotATable")) (isO_ok ev.tab anc_ok (by decide +kernel))) sa_nil))) sa_nil))) (sss_cons (ss_expr (se_bm PySem.F.plainAttrs_list PySem.F.slot_list_append PySem.F.type_list_append mt_append gmt_append (se_var (pv 1)) (sa_cons (se_tup (sa_cons se_str (sa_cons (se_isi (ev.free "isinstance") (se_var (pv 0)) (cls_own (ev.glo "DividedByZero")) (isO_ok ev.tab anc_ok (by decide +kernel))) sa_nil))) sa_nil))) (sss_cons (ss_expr (se_bm PySem.F.plainAttrs_list PySem.F.slot_list_append PySem.F.type_list_append mt_append gmt_append (se_var (pv 1)) (sa_cons (se_tup (sa_cons se_str (sa_cons (se_isi (ev.free "isinstance") (se_var (pv 0)) (cls_own (ev.glo "IsStill")) (isO_ok ev.tab anc_ok (by decide +kernel))) sa_nil))) sa_nil))) (sss_cons (ss_expr (se_bm PySem.F.plainAttrs_list PySem.F.slot_list_append PySem.F.type_list_append mt_append gmt_append (se_var (pv 1)) (sa_cons (se_tup (sa_cons se_str (sa_cons (se_isi (ev.free "isinstance") (se_var (pv 0)) (cls_own (ev.glo "NotAFlow")) (isO_ok ev.tab anc_ok (by decide +kernel))) sa_nil))) sa_nil))) (sss_cons (ss_expr (se_bm PySem.F.plainAttrs_list PySem.F.slot_list_append PySem.F.type_list_append mt_append gmt_append (se_var (pv 1)) (sa_cons (se_tup (sa_cons se_str (sa_cons (se_isi (ev.free "isinstance") (se_var (pv 0)) (cls_own (ev.glo "InvalidFlat")) (isO_ok ev.tab anc_ok (by decide +kernel))) sa_nil))) sa_nil))) (sss_cons (ss_expr (se_bm PySem.F.plainAttrs_list PySem.F.slot_list_append PySem.F.type_list_append mt_append gmt_append (se_var (pv 1)) (sa_cons (se_tup (sa_cons se_str (sa_cons (se_isi (ev.free "isinstance") (se_var (pv 0)) (cls_own (ev.glo "NotAClock")) (isO_ok ev.tab anc_ok (by decide +kernel))) sa_nil))) sa_nil))) (sss_cons (ss_expr (se_bm PySem.F.plainAttrs_list PySem.F.slot_list_append PySem.F.type_list_append mt_append gmt_append (se_var (pv 1)) (sa_cons (se_tup (sa_cons se_str (sa_cons (se_isi (ev.free "isinstance") (se_var (pv 0)) (cls_own (ev.glo "UnlikeFlats")) (isO_ok ev.tab anc_ok (by decide +kernel))) sa_nil))) sa_nil))) (sss_cons (ss_expr (se_bm PySem.F.plainAttrs_list PySem.F.slot_list_append PySem.F.type_list_append mt_append gmt_append (se_var (pv 1)) (sa_cons (se_tup (sa_cons se_str (sa_cons (se_isi (ev.free "isinstance") (se_var (pv 0)) (cls_own (ev.glo "NotAlike")) (isO_ok ev.tab anc_ok (by decide +kernel))) sa_nil))) sa_nil))) (sss_cons (ss_expr (se_bm PySem.F.plainAttrs_list PySem.F.slot_list_append PySem.F.type_list_append mt_append gmt_append (se_var (pv 1)) (sa_cons (se_tup (sa_cons se_str (sa_cons (se_isi (ev.free "isinstance") (se_var (pv 0)) (cls_own (ev.glo "InvalidLead")) (isO_ok ev.tab anc_ok (by decide +kernel))) sa_nil))) sa_nil))) (sss_cons (ss_expr (se_bm PySem.F.plainAttrs_list PySem.F.slot_list_append PySem.F.type_list_append mt_append gmt_append (se_var (pv 1)) (sa_cons (se_tup (sa_cons se_str (sa_cons (se_isi (ev.free "isinstance") (se_var (pv 0)) (cls_own (ev.glo "InvalidTime")) (isO_ok ev.tab anc_ok (by decide +kernel))) sa_nil))) sa_nil))) (sss_cons (ss_expr (se_bm PySem.F.plainAttrs_list PySem.F.slot_list_append PySem.F.type_list_append mt_append gmt_append (se_var (pv 1)) (sa_cons (se_tup (sa_cons se_str (sa_cons (se_isi (ev.free "isinstance") (se_var (pv 0)) (cls_own (ev.glo "InvalidTop")) (isO_ok ev.tab anc_ok (by decide +kernel))) sa_nil))) sa_nil))) (sss_cons (ss_expr (se_bm PySem.F.plainAttrs_list PySem.F.slot_list_append PySem.F.type_list_append mt_append gmt_append (se_var (pv 1)) (sa_cons (se_tup (sa_cons se_str (sa_cons (se_isi (ev.free "isinstance") (se_var (pv 0)) (cls_own (ev.glo "NotInFamily")) (isO_ok ev.tab anc_ok (by decide +kernel))) sa_nil))) sa_nil))) (sss_cons (ss_expr (se_bm PySem.F.plainAttrs_list PySem.F.slot_list_append PySem.F.type_list_append mt_append gmt_append (se_var (pv 1)) (sa_cons (se_tup (sa_cons se_str (sa_cons (se_isi (ev.free "isinstance") (se_var (pv 0)) (cls_own (ev.glo "NoFlips")) (isO_ok ev.tab anc_ok (by decide +kernel))) sa_nil))) sa_nil))) (sss_cons (ss_expr (se_bm PySem.F.plainAttrs_list PySem.F.slot_list_append PySem.F.type_list_append mt_append gmt_append (se_var (pv 1)) (sa_cons (se_tup (sa_cons se_str (sa_cons (se_isi (ev.free "isinstance") (se_var (pv 0)) (cls_own (ev.glo "NotFolded")) (isO_ok ev.tab anc_ok (by decide +kernel))) sa_nil))) sa_nil))) (sss_cons (ss_expr (se_bm PySem.F.plainAttrs_list PySem.F.slot_list_append PySem.F.type_list_append mt_append gmt_append (se_var (pv 1)) (sa_cons (se_tup (sa_cons se_str (sa_cons (se_isi (ev.free "isinstance") (se_var (pv 0)) (cls_own (ev.glo "InvalidFar")) (isO_ok ev.tab anc_ok (by decide +kernel))) sa_nil))) sa_nil))) (sss_cons (ss_expr (se_bm PySem.F.plainAttrs_list PySem.F.slot_list_append PySem.F.type_list_append mt_append gmt_append (se_var (pv 1)) (sa_cons (se_tup (sa_cons se_str (sa_cons (se_isi (ev.free "isinstance") (se_var (pv 0)) (cls_own (ev.glo "NotFar")) (isO_ok ev.tab anc_ok (by decide +kernel))) sa_nil))) sa_nil))) (sss_one (ss_ret (se_compIf (k := false) (own := [("_law_pair", 2)]) rfl sc__law_kinds.nd (si_val (se_frz (se_var (pv 1)))) (blkOk_by (N := N__law_kinds) (sc := defScope st__law_kinds) (own := [("_law_pair", 2)]) (by decide +kernel)) (fun _ _ _ _ _ => (pg_name (i := 2) sc__law_kinds.nd rfl (Or.inl rfl))) (grel_name (i := 2) (by decide)) (fun _ _ _ _ _ => (st_val (se_ix (se_var (pv 2)) se_int))) (fun _ _ _ _ _ => (se_ix (se_var (pv 2)) se_int))))))))))))))))))))))))))))))))))))
abbrev N__law_kinds_too : List Str := ["_law_error", "_law_some", "_law_pair"]
abbrev st__law_kinds_too : Stmt := top 64
theorem sc__law_kinds_too : FnScope N__law_kinds_too ["_law_error"] (defScope st__law_kinds_too) := ⟨rfl, rfl, rfl, by decide +kernel, rfl, by decide +kernel, by decide +kernel⟩
def m__law_kinds_too : Sm := (sSeq (sSet 1 (eLst true aNil)) (sSeq (sExpr (eBM "list" (mutD fAppend) (eVar 1) (aCons (eTup (aCons (eC (.str "NotLed")) (aCons (eUn (isiD (isO ancO leafs "NotLed")) (eVar 0)) aNil))) aNil))) (sSeq (sExpr (eBM "list" (mutD fAppend) (eVar 1) (aCons (eTup (aCons (eC (.str "NotInCrew")) (aCons (eUn (isiD (isO ancO leafs "NotInCrew")) (eVar 0)) aNil))) aNil))) (sSeq (sExpr (eBM "list" (mutD fAppend) (eVar 1) (aCons (eTup (aCons (eC (.str "InCrew")) (aCons (eUn (isiD (isO ancO leafs "InCrew")) (eVar 0)) aNil))) aNil))) (sSeq (sExpr (eBM "list" (mutD fAppend) (eVar 1) (aCons (eTup (aCons (eC (.str "InvalidName")) (aCons (eUn (isiD (isO ancO leafs "InvalidName")) (eVar 0)) aNil))) aNil))) (sSeq (sExpr (eBM "list" (mutD fAppend) (eVar 1) (aCons (eTup (aCons (eC (.str "InvalidNames")) (aCons (eUn (isiD (isO ancO leafs "InvalidNames")) (eVar 0)) aNil))) aNil))) (sSeq (sExpr (eBM "list" (mutD fAppend) (eVar 1) (aCons (eTup (aCons (eC (.str "InvalidWord")) (aCons (eUn (isiD (isO ancO leafs "InvalidWord")) (eVar 0)) aNil))) aNil))) (sSeq (sExpr (eBM "list" (mutD fAppend) (eVar 1) (aCons (eTup (aCons (eC (.str "SameName")) (aCons (eUn (isiD (isO ancO leafs "SameName")) (eVar 0)) aNil))) aNil))) (sSeq (sExpr (eBM "list" (mutD fAppend) (eVar 1) (aCons (eTup (aCons (eC (.str "NotOpen")) (aCons (eUn (isiD (isO ancO leafs "NotOpen")) (eVar 0)) aNil))) aNil))) (sSeq (sExpr (eBM "list" (mutD fAppend) (eVar 1) (aCons (eTup (aCons (eC (.str "InvalidStep")) (aCons (eUn (isiD (isO ancO leafs "InvalidStep")) (eVar 0)) aNil))) aNil))) (sSeq (sExpr (eBM "list" (mutD fAppend) (eVar 1) (aCons (eTup (aCons (eC (.str "InvalidPaper")) (aCons (eUn (isiD (isO ancO leafs "InvalidPaper")) (eVar 0)) aNil))) aNil))) (sSeq (sExpr (eBM "list" (mutD fAppend) (eVar 1) (aCons (eTup (aCons (eC (.str "InvalidDeed")) (aCons (eUn (isiD (isO ancO leafs "InvalidDeed")) (eVar 0)) aNil))) aNil))) (sSeq (sExpr (eBM "list" (mutD fAppend) (eVar 1) (aCons (eTup (aCons (eC (.str "InvalidLine")) (aCons (eUn (isiD (isO ancO leafs "InvalidLine")) (eVar 0)) aNil))) aNil))) (sSeq (sExpr (eBM "list" (mutD fAppend) (eVar 1) (aCons (eTup (aCons (eC (.str "TooMany")) (aCons (eUn (isiD (isO ancO leafs "TooMany")) (eVar 0)) aNil))) aNil))) (sSeq (sExpr (eBM "list" (mutD fAppend) (eVar 1) (aCons (eTup (aCons (eC (.str "Solved")) (aCons (eUn (isiD (isO ancO leafs "Solved")) (eVar 0)) aNil))) aNil))) (sSeq (sExpr (eBM "list" (mutD fAppend) (eVar 1) (aCons (eTup (aCons (eC (.str "Tied")) (aCons (eUn (isiD (isO ancO leafs "Tied")) (eVar 0)) aNil))) aNil))) (sSeq (sExpr (eBM "list" (mutD fAppend) (eVar 1) (aCons (eTup (aCons (eC (.str "NotSquare")) (aCons (eUn (isiD (isO ancO leafs "NotSquare")) (eVar 0)) aNil))) aNil))) (sSeq (sExpr (eBM "list" (mutD fAppend) (eVar 1) (aCons (eTup (aCons (eC (.str "UnknownName")) (aCons (eUn (isiD (isO ancO leafs "UnknownName")) (eVar 0)) aNil))) aNil))) (sSeq (sExpr (eBM "list" (mutD fAppend) (eVar 1) (aCons (eTup (aCons (eC (.str "UnknownStep")) (aCons (eUn (isiD (isO ancO leafs "UnknownStep")) (eVar 0)) aNil))) aNil))) (sSeq (sExpr (eBM "list" (mutD fAppend) (eVar 1) (aCons (eTup (aCons (eC (.str "NothingLeft")) (aCons (eUn (isiD (isO ancO leafs "NothingLeft")) (eVar 0)) aNil))) aNil))) (sSeq (sExpr (eBM "list" (mutD fAppend) (eVar 1) (aCons (eTup (aCons (eC (.str "CreepError")) (aCons (eUn (isiD (isO ancO leafs "CreepError")) (eVar 0)) aNil))) aNil))) (sSeq (sExpr (eBM "list" (mutD fAppend) (eVar 1) (aCons (eTup (aCons (eC (.str "NoAnswer")) (aCons (eUn (isiD (isO ancO leafs "NoAnswer")) (eVar 0)) aNil))) aNil))) (sSeq (sExpr (eBM "list" (mutD fAppend) (eVar 1) (aCons (eTup (aCons (eC (.str "Missing")) (aCons (eUn (isiD (isO ancO leafs "Missing")) (eVar 0)) aNil))) aNil))) (sSeq (sExpr (eBM "list" (mutD fAppend) (eVar 1) (aCons (eTup (aCons (eC (.str "ValueError")) (aCons (eUn (isiD (isY ancT leafs "ValueError")) (eVar 0)) aNil))) aNil))) (sSeq (sExpr (eBM "list" (mutD fAppend) (eVar 1) (aCons (eTup (aCons (eC (.str "ArithmeticError")) (aCons (eUn (isiD (isY ancT leafs "ArithmeticError")) (eVar 0)) aNil))) aNil))) (sSeq (sExpr (eBM "list" (mutD fAppend) (eVar 1) (aCons (eTup (aCons (eC (.str "ZeroDivisionError")) (aCons (eUn (isiD (isY ancT leafs "ZeroDivisionError")) (eVar 0)) aNil))) aNil))) (sSeq (sExpr (eBM "list" (mutD fAppend) (eVar 1) (aCons (eTup (aCons (eC (.str "LookupError")) (aCons (eUn (isiD (isY ancT leafs "LookupError")) (eVar 0)) aNil))) aNil))) (sSeq (sExpr (eBM "list" (mutD fAppend) (eVar 1) (aCons (eTup (aCons (eC (.str "IndexError")) (aCons (eUn (isiD (isY ancT leafs "IndexError")) (eVar 0)) aNil))) aNil))) (sSeq (sExpr (eBM "list" (mutD fAppend) (eVar 1) (aCons (eTup (aCons (eC (.str "KeyError")) (aCons (eUn (isiD (isY ancT leafs "KeyError")) (eVar 0)) aNil))) aNil))) (sRet (eComp false [2] (iVal (eFrz (eVar 1))) (gN 2) (tOf (eBin ixD (eVar 2) (eC (.int 1)))) (eBin ixD (eVar 2) (eC (.int 0))))))))))))))))))))))))))))))))))
def f__law_kinds_too : List D → Sto → Res D := chk 1 (runDef 3 m__law_kinds_too)
theorem ok__law_kinds_too (ev : Ev K mg) : Fn P w K mg base "_law_kinds_too" 1 1 f__law_kinds_too := by
  obtain ⟨fd, F⟩ := ev.says.def_ D__law_kinds_too rfl
  refine fn_name (x := "_law_kinds_too") (N := N__law_kinds_too) (ps := ["_law_error"]) F sc__law_kinds_too (ev.glo "_law_kinds_too") (F.bindsN fun _ _ _ _ _ _ us hl => match us, hl with | [_], _ => rfl) fun cdv A outer s H E hr => ?_
  exact (sss_cons (ss_set sc__law_kinds_too.nd (i := 1) rfl (by first | exact Or.inl rfl | exact Or.inr rfl) (se_lst (k := true) sa_nil)) (sss_cons (ss_expr (se_bm PySem.F.plainAttrs_list PySem.F.slot_list_append PySem.F.type_list_append mt_append gmt_append (se_var (pv 1)) (sa_cons (se_tup (sa_cons se_str (sa_cons (se_isi (ev.free "isinstance") (se_var (pv 0)) (cls_own (ev.glo "NotLed")) (isO_ok ev.tab anc_ok (by decide +kernel))) sa_nil))) sa_nil))) (sss_cons (ss_expr (se_bm PySem.F.plainAttrs_list PySem.F.slot_list_append PySem.F.type_list_append mt_append gmt_append (se_var (pv 1)) (sa_cons (se_tup (sa_cons se_str (sa_cons (se_isi (ev.free "isinstance") (se_var (pv 0)) (cls_own (ev.glo "NotInCrew")) (isO_ok ev.tab anc_ok (by decide +kernel))) sa_nil))) sa_nil))) (sss_cons (ss_expr (se_bm PySem.F.plainAttrs_list PySem.F.slot_list_append PySem.F.type_list_append mt_append gmt_append (se_var (pv 1)) (sa_cons (se_tup (sa_cons se_str (sa_cons (se_isi (ev.free "isinstance") (se_var (pv 0)) (cls_own (ev.glo "InCrew")) (isO_ok ev.tab anc_ok (by decide +kernel))) sa_nil))) sa_nil))) (sss_cons (ss_expr (se_bm PySem.F.plainAttrs_list PySem.F.slot_list_append PySem.F.type_list_append mt_append gmt_append (se_var (pv 1)) (sa_cons (se_tup (sa_cons se_str (sa_cons (se_isi (ev.free "isinstance") (se_var (pv 0)) (cls_own (ev.glo "InvalidName")) (isO_ok ev.tab anc_ok (by decide +kernel))) sa_nil))) sa_nil))) (sss_cons (ss_expr (se_bm PySem.F.plainAttrs_list PySem.F.slot_list_append PySem.F.type_list_append mt_append gmt_append (se_var (pv 1)) (sa_cons (se_tup (sa_cons se_str (sa_cons (se_isi (ev.free "isinstance") (se_var (pv 0)) (cls_own (ev.glo "InvalidNames")) (isO_ok ev.tab anc_ok (by decide +kernel))) sa_nil))) sa_nil))) (sss_cons (ss_expr (se_bm PySem.F.plainAttrs_list PySem.F.slot_list_append PySem.F.type_list_append mt_append gmt_append (se_var (pv 1)) (sa_cons (se_tup (sa_cons se_str (sa_cons (se_isi (ev.free "isinstance") (se_var (pv 0)) (cls_own (ev.glo "InvalidWord")) (isO_ok ev.tab anc_ok (by decide +kernel))) sa_nil))) sa_nil))) (sss_cons (ss_expr (se_bm PySem.F.plainAttrs_list PySem.F.slot_list_append PySem.F.type_list_append mt_append gmt_append (se_var (pv 1)) (sa_cons (se_tup (sa_cons se_str (sa_cons (se_isi (ev.free "isinstance") (se_var (pv 0)) (cls_own (ev.glo "SameName")) (isO_ok ev.tab anc_ok (by decide +kernel))) sa_nil))) sa_nil))) (sss_cons (ss_expr (se_bm PySem.F.plainAttrs_list PySem.F.slot_list_append PySem.F.type_list_append mt_append gmt_append (se_var (pv 1)) (sa_cons (se_tup (sa_cons se_str (sa_cons (se_isi (ev.free "isinstance") (se_var (pv 0)) (cls_own (ev.glo "NotOpen")) (isO_ok ev.tab anc_ok (by decide +kernel))) sa_nil))) sa_nil))) (sss_cons (ss_expr (se_bm PySem.F.plainAttrs_list PySem.F.slot_list_append PySem.F.type_list_append mt_append gmt_append (se_var (pv 1)) (sa_cons (se_tup (sa_cons se_str (sa_cons (se_isi (ev.free "isinstance") (se_var (pv 0)) (cls_own (ev.glo "InvalidStep")) (isO_ok ev.tab anc_ok (by decide +kernel))) sa_nil))) sa_nil))) (sss_cons (ss_expr (se_bm PySem.F.plainAttrs_list PySem.F.slot_list_append PySem.F.type_list_append mt_append gmt_append (se_var (pv 1)) (sa_cons (se_tup (sa_cons se_str (sa_cons (se_isi (ev.free "isinstance") (se_var (pv 0)) (cls_own (ev.glo "InvalidPaper")) (isO_ok ev.tab anc_ok (by decide +kernel))) sa_nil))) sa_nil))) (sss_cons (ss_expr (se_bm PySem.F.plainAttrs_list PySem.F.slot_list_append PySem.F.type_list_append mt_append gmt_append (se_var (pv 1)) (sa_cons (se_tup (sa_cons se_str (sa_cons (se_isi (ev.free "isinstance") (se_var (pv 0)) (cls_own (ev.glo "InvalidDeed")) (isO_ok ev.tab anc_ok (by decide +kernel))) sa_nil))) sa_nil))) (sss_cons (ss_expr (se_bm PySem.F.plainAttrs_list PySem.F.slot_list_append PySem.F.type_list_append mt_append gmt_append (se_var (pv 1)) (sa_cons (se_tup (sa_cons se_str (sa_cons (se_isi (ev.free "isinstance") (se_var (pv 0)) (cls_own (ev.glo "InvalidLine")) (isO_ok ev.tab anc_ok (by decide +kernel))) sa_nil))) sa_nil))) (sss_cons (ss_expr (se_bm PySem.F.plainAttrs_list PySem.F.slot_list_append PySem.F.type_list_append mt_append gmt_append (se_var (pv 1)) (sa_cons (se_tup (sa_cons se_str (sa_cons (se_isi (ev.free "isinstance") (se_var (pv 0)) (cls_own (ev.glo "TooMany")) (isO_ok ev.tab anc_ok (by decide +kernel))) sa_nil))) sa_nil))) (sss_cons (ss_expr (se_bm PySem.F.plainAttrs_list PySem.F.slot_list_append PySem.F.type_list_append mt_append gmt_append (se_var (pv 1)) (sa_cons (se_tup (sa_cons se_str (sa_cons (se_isi (ev.free "isinstance") (se_var (pv 0)) (cls_own (ev.glo "Solved")) (isO_ok ev.tab anc_ok (by decide +kernel))) sa_nil))) sa_nil))) (sss_cons (ss_expr (se_bm PySem.F.plainAttrs_list PySem.F.slot_list_append PySem.F.type_list_append mt_append gmt_append (se_var (pv 1)) (sa_cons (se_tup (sa_cons se_str (sa_cons (se_isi (ev.free "isinstance") (se_var (pv 0)) (cls_own (ev.glo "Tied")) (isO_ok ev.tab anc_ok (by decide +kernel))) sa_nil))) sa_nil))) (sss_cons (ss_expr (se_bm PySem.F.plainAttrs_list PySem.F.slot_list_append PySem.F.type_list_append mt_append gmt_append (se_var (pv 1)) (sa_cons (se_tup (sa_cons se_str (sa_cons (se_isi (ev.free "isinstance") (se_var (pv 0)) (cls_own (ev.glo "NotSquare")) (isO_ok ev.tab anc_ok (by decide +kernel))) sa_nil))) sa_nil))) (sss_cons (ss_expr (se_bm PySem.F.plainAttrs_list PySem.F.slot_list_append PySem.F.type_list_append mt_append gmt_append (se_var (pv 1)) (sa_cons (se_tup (sa_cons se_str (sa_cons (se_isi (ev.free "isinstance") (se_var (pv 0)) (cls_own (ev.glo "UnknownName")) (isO_ok ev.tab anc_ok (by decide +kernel))) sa_nil))) sa_nil))) (sss_cons (ss_expr (se_bm PySem.F.plainAttrs_list PySem.F.slot_list_append PySem.F.type_list_append mt_append gmt_append (se_var (pv 1)) (sa_cons (se_tup (sa_cons se_str (sa_cons (se_isi (ev.free "isinstance") (se_var (pv 0)) (cls_own (ev.glo "UnknownStep")) (isO_ok ev.tab anc_ok (by decide +kernel))) sa_nil))) sa_nil))) (sss_cons (ss_expr (se_bm PySem.F.plainAttrs_list PySem.F.slot_list_append PySem.F.type_list_append mt_append gmt_append (se_var (pv 1)) (sa_cons (se_tup (sa_cons se_str (sa_cons (se_isi (ev.free "isinstance") (se_var (pv 0)) (cls_own (ev.glo "NothingLeft")) (isO_ok ev.tab anc_ok (by decide +kernel))) sa_nil))) sa_nil))) (sss_cons (ss_expr (se_bm PySem.F.plainAttrs_list PySem.F.slot_list_append PySem.F.type_list_append mt_append gmt_append (se_var (pv 1)) (sa_cons (se_tup (sa_cons se_str (sa_cons (se_isi (ev.free "isinstance") (se_var (pv 0)) (cls_own (ev.glo "CreepError")) (isO_ok ev.tab anc_ok (by decide +kernel))) sa_nil))) sa_nil))) (sss_cons (ss_expr (se_bm PySem.F.plainAttrs_list PySem.F.slot_list_append PySem.F.type_list_append mt_append gmt_append (se_var (pv 1)) (sa_cons (se_tup (sa_cons se_str (sa_cons (se_isi (ev.free "isinstance") (se_var (pv 0)) (cls_own (ev.glo "NoAnswer")) (isO_ok ev.tab anc_ok (by decide +kernel))) sa_nil))) sa_nil))) (sss_cons (ss_expr (se_bm PySem.F.plainAttrs_list PySem.F.slot_list_append PySem.F.type_list_append mt_append gmt_append (se_var (pv 1)) (sa_cons (se_tup (sa_cons se_str (sa_cons (se_isi (ev.free "isinstance") (se_var (pv 0)) (cls_own (ev.glo "Missing")) (isO_ok ev.tab anc_ok (by decide +kernel))) sa_nil))) sa_nil))) (sss_cons (ss_expr (se_bm PySem.F.plainAttrs_list PySem.F.slot_list_append PySem.F.type_list_append mt_append gmt_append (se_var (pv 1)) (sa_cons (se_tup (sa_cons se_str (sa_cons (se_isi (ev.free "isinstance") (se_var (pv 0)) (cls_ty (ev.free "ValueError")) (isY_ok ev.tab anc_ok (by kernel_rfl))) sa_nil))) sa_nil))) (sss_cons (ss_expr (se_bm PySem.F.plainAttrs_list PySem.F.slot_list_append PySem.F.type_list_append mt_append gmt_append (se_var (pv 1)) (sa_cons (se_tup (sa_cons se_str (sa_cons (se_isi (ev.free "isinstance") (se_var (pv 0)) (cls_ty (ev.free "ArithmeticError")) (isY_ok ev.tab anc_ok (by kernel_rfl))) sa_nil))) sa_nil))) (sss_cons (ss_expr (se_bm PySem.F.plainAttrs_list PySem.F.slot_list_append PySem.F.type_list_append mt_append gmt_append (se_var (pv 1)) (sa_cons (se_tup (sa_cons se_str (sa_cons (se_isi (ev.free "isinstance") (se_var (pv 0)) (cls_ty (ev.free "ZeroDivisionError")) (isY_ok ev.tab anc_ok (by kernel_rfl))) sa_nil))) sa_nil))) (sss_cons (ss_expr (se_bm PySem.F.plainAttrs_list PySem.F.slot_list_append PySem.F.type_list_append mt_append gmt_append (se_var (pv 1)) (sa_cons (se_tup (sa_cons se_str (sa_cons (se_isi (ev.free "isinstance") (se_var (pv 0)) (cls_ty (ev.free "LookupError")) (isY_ok ev.tab anc_ok (by kernel_rfl))) sa_nil))) sa_nil))) (sss_cons (ss_expr (se_bm PySem.F.plainAttrs_list PySem.F.slot_list_append PySem.F.type_list_append mt_append gmt_append (se_var (pv 1)) (sa_cons (se_tup (sa_cons se_str (sa_cons (se_isi (ev.free "isinstance") (se_var (pv 0)) (cls_ty (ev.free "IndexError")) (isY_ok ev.tab anc_ok (by kernel_rfl))) sa_nil))) sa_nil))) (sss_cons (ss_expr (se_bm PySem.F.plainAttrs_list PySem.F.slot_list_append PySem.F.type_list_append mt_append gmt_append (se_var (pv 1)) (sa_cons (se_tup (sa_cons se_str (sa_cons (se_isi (ev.free "isinstance") (se_var (pv 0)) (cls_ty (ev.free "KeyError")) (isY_ok ev.tab anc_ok (by kernel_rfl))) sa_nil))) sa_nil))) (sss_one (ss_ret (se_compIf (k := false) (own := [("_law_pair", 2)]) rfl sc__law_kinds_too.nd (si_val (se_frz (se_var (pv 1)))) (blkOk_by (N := N__law_kinds_too) (sc := defScope st__law_kinds_too) (own := [("_law_pair", 2)]) (by decide +kernel)) (fun _ _ _ _ _ => (pg_name (i := 2) sc__law_kinds_too.nd rfl (Or.inl rfl))) (grel_name (i := 2) (by decide)) (fun _ _ _ _ _ => (st_val (se_ix (se_var (pv 2)) se_int))) (fun _ _ _ _ _ => (se_ix (se_var (pv 2)) se_int))))))))))))))))))))))))))))))))))
abbrev N__law_made : List Str := ["_law_pick", "_law_pair", "_law_way", "_law_words_here", "_law_error"]
abbrev st__law_made : Stmt := top 69
theorem sc__law_made : FnScope N__law_made ["_law_pick", "_law_pair", "_law_way"] (defScope st__law_made) := ⟨rfl, rfl, rfl, by decide +kernel, rfl, by decide +kernel, by decide +kernel⟩
def m__law_made : Sm := (sSeq (sSet 3 (eCall f__law_words (aCons (eVar 0) aNil) [])) (sSeq (sIf (tOf (eBin eqD (eCB lenD (aCons (eVar 3) aNil)) (eC (.int 2)))) (sRet (eCall f__law_both (aCons (eVar 0) (aCons (eBin ixD (eVar 1) (eC (.int 0))) (aCons (eBin ixD (eVar 1) (eC (.int 1))) (aCons (eVar 2) aNil)))) [])) sNil) (sSeq (sIf (tOf (eBin eqD (eCB lenD (aCons (eVar 3) aNil)) (eC (.int 0)))) (sRet (eCall f__law_bare (aCons (eVar 0) aNil) [])) sNil) (sSeq (sSet 4 (eCall f__law_first (aCons (eVar 0) (aCons (eBin ixD (eVar 1) (eC (.int 0))) (aCons (eVar 2) aNil))) [])) (sRet (eIf (tOf (eBin isN (eVar 4) (eC .non))) (eCall f__law_second (aCons (eVar 0) (aCons (eBin ixD (eVar 1) (eC (.int 0))) (aCons (eVar 2) aNil))) []) (eVar 4)))))))
def f__law_made : List D → Sto → Res D := chk 3 (runDef 5 m__law_made)
theorem ok__law_made (ev : Ev K mg) : Fn P w K mg base "_law_made" 4 3 f__law_made := by
  obtain ⟨fd, F⟩ := ev.says.def_ D__law_made rfl
  refine fn_name (x := "_law_made") (N := N__law_made) (ps := ["_law_pick", "_law_pair", "_law_way"]) F sc__law_made (ev.glo "_law_made") (F.bindsN fun _ _ _ _ _ _ us hl => match us, hl with | [_, _, _], _ => rfl) fun cdv A outer s H E hr => ?_
  exact (sss_cons (ss_set sc__law_made.nd (i := 3) rfl (by first | exact Or.inl rfl | exact Or.inr rfl) (se_fn (ok__law_words ev) hr (by omega) cx_takes (sa_cons (se_var (pv 0)) sa_nil))) (sss_cons (ss_if (st_eq hr (se_cb call_len gc_len (ev.free "len") (sa_cons (se_var (pv 3)) sa_nil)) se_int) (sss_one (ss_ret (se_fn (ok__law_both ev) hr (by omega) cx_takes (sa_cons (se_var (pv 0)) (sa_cons (se_ix (se_var (pv 1)) se_int) (sa_cons (se_ix (se_var (pv 1)) se_int) (sa_cons (se_var (pv 2)) sa_nil))))))) sss_nil) (sss_cons (ss_if (st_eq hr (se_cb call_len gc_len (ev.free "len") (sa_cons (se_var (pv 3)) sa_nil)) se_int) (sss_one (ss_ret (se_fn (ok__law_bare ev) hr (by omega) cx_takes (sa_cons (se_var (pv 0)) sa_nil)))) sss_nil) (sss_cons (ss_set sc__law_made.nd (i := 4) rfl (by first | exact Or.inl rfl | exact Or.inr rfl) (se_fn (ok__law_first ev) hr (by omega) cx_takes (sa_cons (se_var (pv 0)) (sa_cons (se_ix (se_var (pv 1)) se_int) (sa_cons (se_var (pv 2)) sa_nil))))) (sss_one (ss_ret (se_if (st_isN (se_var (pv 4)) se_non) (se_fn (ok__law_second ev) hr (by omega) cx_takes (sa_cons (se_var (pv 0)) (sa_cons (se_ix (se_var (pv 1)) se_int) (sa_cons (se_var (pv 2)) sa_nil)))) (se_var (pv 4)))))))))
abbrev N__law_so : List Str := ["_law_bag_here", "_law_pick", "_law_words_here", "_law_pairs", "_law_dues", "_law_errors", "_law_k", "_law_pair", "_law_due_here"]
abbrev st__law_so : Stmt := top 70
theorem sc__law_so : FnScope N__law_so ["_law_bag_here", "_law_pick"] (defScope st__law_so) := ⟨rfl, rfl, rfl, by decide +kernel, rfl, by decide +kernel, by decide +kernel⟩
def m__law_so : Sm := (sSeq (sSet 2 (eCall f__law_words (aCons (eVar 1) aNil) [])) (sSeq (sSet 3 (eComp false [6] (iRange1 (aCons (eC (.int 2)) aNil)) (gN 6) tTrue (eTup (aCons (eCall (f__law_thing 3) (aCons (eVar 0) (aCons (eC (.int 2)) aNil)) []) (aCons (eCall (f__law_thing 3) (aCons (eVar 0) (aCons (eC (.int 2)) aNil)) []) aNil))))) (sSeq (sSet 4 (eComp false [7] (iVal (eVar 3)) (gN 7) tTrue (eBin (catL false) (eLst false (aCons (eVar 1) aNil)) (eSl false (eCB (listD false) (aCons (eCall (f__law_copied 6) (aCons (eVar 7) aNil) []) aNil)) pNone (pSome (eCB lenD (aCons (eVar 2) aNil))))))) (sSeq (sSet 5 (eComp false [7] (iVal (eVar 3)) (gN 7) tTrue (eCall f__law_made (aCons (eVar 1) (aCons (eVar 7) (aCons (eCall f__law_draw (aCons (eVar 0) (aCons (eC (.int 4)) aNil)) []) aNil))) []))) (sSeq (sFor (iVal (eTup (aCons (eC (.int 1)) (aCons (eC (.int 0)) (aCons (eC (.int 1)) aNil))))) (gN 6) (sSeq (sIf (tNot (tOf (eCall (f__law_like 6) (aCons (eCall f__law_told (aCons (eBin ixD (eVar 5) (eVar 6)) (aCons (eVar 2) aNil)) []) (aCons (eBin ixD (eVar 4) (eVar 6)) aNil)) []))) (sRet (eC (.bl false))) sNil) (sIf (tOf (eBin neD (eBin (catL false) (eCall f__law_kinds (aCons (eBin ixD (eVar 5) (eVar 6)) aNil) []) (eCall f__law_kinds_too (aCons (eBin ixD (eVar 5) (eVar 6)) aNil) [])) (eCall f__law_due (aCons (eVar 1) aNil) []))) (sRet (eC (.bl false))) sNil))) (sRet (eCall (f__law_like 6) (aCons (eComp false [7] (iVal (eVar 3)) (gN 7) tTrue (eSl false (eCB (listD false) (aCons (eVar 7) aNil)) pNone (pSome (eCB lenD (aCons (eVar 2) aNil))))) (aCons (eComp false [8] (iVal (eVar 4)) (gN 8) tTrue (eSl false (eVar 8) (pSome (eC (.int 1))) pNone)) aNil)) [])))))))
def f__law_so : List D → Sto → Res D := chk 2 (runDef 9 m__law_so)
theorem ok__law_so (ev : Ev K mg) : Fn P w K mg base "_law_so" 8 2 f__law_so := by
  obtain ⟨fd, F⟩ := ev.says.def_ D__law_so rfl
  refine fn_name (x := "_law_so") (N := N__law_so) (ps := ["_law_bag_here", "_law_pick"]) F sc__law_so (ev.glo "_law_so") (F.bindsN fun _ _ _ _ _ _ us hl => match us, hl with | [_, _], _ => rfl) fun cdv A outer s H E hr => ?_
  exact (sss_cons (ss_set sc__law_so.nd (i := 2) rfl (by first | exact Or.inl rfl | exact Or.inr rfl) (se_fn (ok__law_words ev) hr (by omega) cx_takes (sa_cons (se_var (pv 1)) sa_nil))) (sss_cons (ss_setComp (k := false) (i := 3) (own := [("_law_k", 6)]) rfl sc__law_so.nd rfl rfl (sw_true rfl rfl rfl (by decide +kernel)) (si_range1 (ev.free "range") (sa_cons se_int sa_nil)) (blkOk_by (N := N__law_so) (sc := defScope st__law_so) (own := [("_law_k", 6)]) (by decide +kernel)) (fun _ _ _ _ _ => (pg_name (i := 6) sc__law_so.nd rfl (Or.inl rfl))) (grel_name (i := 6) (by decide)) (fun _ _ _ _ _ => (se_tup (sa_cons (se_fn (ok__law_thing ev 3) hr (by omega) takes0 (sa_cons (se_var (pv 0)) (sa_cons se_int sa_nil))) (sa_cons (se_fn (ok__law_thing ev 3) hr (by omega) takes0 (sa_cons (se_var (pv 0)) (sa_cons se_int sa_nil))) sa_nil))))) (sss_cons (ss_setComp (k := false) (i := 4) (own := [("_law_pair", 7)]) rfl sc__law_so.nd rfl rfl (sw_true rfl rfl rfl (by decide +kernel)) (si_val (se_var (pv 3))) (blkOk_by (N := N__law_so) (sc := defScope st__law_so) (own := [("_law_pair", 7)]) (by decide +kernel)) (fun _ _ _ _ _ => (pg_name (i := 7) sc__law_so.nd rfl (Or.inl rfl))) (grel_name (i := 7) (by decide)) (fun _ _ _ _ _ => (se_cat (k := false) (se_lst (k := false) (sa_cons (se_var (pv 1)) sa_nil)) (se_sl (k := false) (se_cty call_list_of (gc_list (k := false)) (ev.free "list") (sa_cons (se_fn (ok__law_copied ev 6) hr (by omega) takes0 (sa_cons (se_var (pv 7)) sa_nil)) sa_nil)) sp_none (sp_some (se_cb call_len gc_len (ev.free "len") (sa_cons (se_var (pv 2)) sa_nil))))))) (sss_cons (ss_setComp (k := false) (i := 5) (own := [("_law_pair", 7)]) rfl sc__law_so.nd rfl rfl (sw_true rfl rfl rfl (by decide +kernel)) (si_val (se_var (pv 3))) (blkOk_by (N := N__law_so) (sc := defScope st__law_so) (own := [("_law_pair", 7)]) (by decide +kernel)) (fun _ _ _ _ _ => (pg_name (i := 7) sc__law_so.nd rfl (Or.inl rfl))) (grel_name (i := 7) (by decide)) (fun _ _ _ _ _ => (se_fn (ok__law_made ev) hr (by omega) takes0 (sa_cons (se_var (pv 1)) (sa_cons (se_var (pv 7)) (sa_cons (se_fn (ok__law_draw ev) hr (by omega) takes0 (sa_cons (se_var (pv 0)) (sa_cons se_int sa_nil))) sa_nil)))))) (sss_cons (ss_for cx_own rfl (si_val (se_tup (sa_cons se_int (sa_cons se_int (sa_cons se_int sa_nil))))) (sg_name (i := 6) sc__law_so.nd rfl (by first | exact Or.inl rfl | exact Or.inr rfl)) (sss_cons (ss_if (st_not (st_val (se_fn (ok__law_like ev 6) hr (by omega) cx_takes (sa_cons (se_fn (ok__law_told ev) hr (by omega) cx_takes (sa_cons (se_ix (se_var (pv 5)) (se_var (pv 6))) (sa_cons (se_var (pv 2)) sa_nil))) (sa_cons (se_ix (se_var (pv 4)) (se_var (pv 6))) sa_nil))))) (sss_one (ss_ret se_bl)) sss_nil) (sss_one (ss_if (st_ne hr (se_cat (k := false) (se_fn (ok__law_kinds ev) hr (by omega) cx_takes (sa_cons (se_ix (se_var (pv 5)) (se_var (pv 6))) sa_nil)) (se_fn (ok__law_kinds_too ev) hr (by omega) cx_takes (sa_cons (se_ix (se_var (pv 5)) (se_var (pv 6))) sa_nil))) (se_fn (ok__law_due ev) hr (by omega) cx_takes (sa_cons (se_var (pv 1)) sa_nil))) (sss_one (ss_ret se_bl)) sss_nil)))) (sss_one (ss_ret (se_fn (ok__law_like ev 6) hr (by omega) cx_takes (sa_cons (se_comp (k := false) (own := [("_law_pair", 7)]) rfl sc__law_so.nd (si_val (se_var (pv 3))) (blkOk_by (N := N__law_so) (sc := defScope st__law_so) (own := [("_law_pair", 7)]) (by decide +kernel)) (fun _ _ _ _ _ => (pg_name (i := 7) sc__law_so.nd rfl (Or.inl rfl))) (grel_name (i := 7) (by decide)) (fun _ _ _ _ _ => (se_sl (k := false) (se_cty call_list_of (gc_list (k := false)) (ev.free "list") (sa_cons (se_var (pv 7)) sa_nil)) sp_none (sp_some (se_cb call_len gc_len (ev.free "len") (sa_cons (se_var (pv 2)) sa_nil)))))) (sa_cons (se_comp (k := false) (own := [("_law_due_here", 8)]) rfl sc__law_so.nd (si_val (se_var (pv 4))) (blkOk_by (N := N__law_so) (sc := defScope st__law_so) (own := [("_law_due_here", 8)]) (by decide +kernel)) (fun _ _ _ _ _ => (pg_name (i := 8) sc__law_so.nd rfl (Or.inl rfl))) (grel_name (i := 8) (by decide)) (fun _ _ _ _ _ => (se_sl (k := false) (se_var (pv 8)) (sp_some se_int) sp_none))) sa_nil))))))))))
abbrev N_law : List Str := ["_law_script", "_law_bag_here", "_law_pick"]
abbrev st_law : Stmt := top 71
theorem sc_law : FnScope N_law ["_law_script"] (defScope st_law) := ⟨rfl, rfl, rfl, by decide +kernel, rfl, by decide +kernel, by decide +kernel⟩
def m_law : Sm := (sSeq (sSet 1 (eCall f__law_bag (aCons (eVar 0) aNil) [])) (sSeq (sFor (iVal (eTup (aCons (eC (.str "InvalidNumber")) (aCons (eC (.str "InvalidFraction")) (aCons (eC (.str "InvalidOrder")) (aCons (eC (.str "OrderTooLow")) (aCons (eC (.str "UnlikeOrders")) (aCons (eC (.str "InvalidPlace")) (aCons (eC (.str "InvalidPower")) (aCons (eC (.str "InvalidTimes")) (aCons (eC (.str "InvalidText")) (aCons (eC (.str "InvalidTable")) aNil)))))))))))) (gN 2) (sIf (tNot (tOf (eCall f__law_so (aCons (eVar 1) (aCons (eVar 2) aNil)) []))) (sRet (eC (.bl false))) sNil)) (sSeq (sFor (iVal (eTup (aCons (eC (.str "CantTurn")) (aCons (eC (.str "NotSlow")) (aCons (eC (.str "NotOne")) (aCons (eC (.str "NotUnit")) (aCons (eC (.str "NotATable")) (aCons (eC (.str "DividedByZero")) (aCons (eC (.str "IsStill")) (aCons (eC (.str "NotAFlow")) (aCons (eC (.str "InvalidFlat")) (aCons (eC (.str "NotAClock")) aNil)))))))))))) (gN 2) (sIf (tNot (tOf (eCall f__law_so (aCons (eVar 1) (aCons (eVar 2) aNil)) []))) (sRet (eC (.bl false))) sNil)) (sSeq (sFor (iVal (eTup (aCons (eC (.str "UnlikeFlats")) (aCons (eC (.str "NotAlike")) (aCons (eC (.str "InvalidLead")) (aCons (eC (.str "InvalidTime")) (aCons (eC (.str "InvalidTop")) (aCons (eC (.str "NotInFamily")) (aCons (eC (.str "NoFlips")) (aCons (eC (.str "NotFolded")) (aCons (eC (.str "InvalidFar")) (aCons (eC (.str "NotFar")) aNil)))))))))))) (gN 2) (sIf (tNot (tOf (eCall f__law_so (aCons (eVar 1) (aCons (eVar 2) aNil)) []))) (sRet (eC (.bl false))) sNil)) (sSeq (sFor (iVal (eTup (aCons (eC (.str "NotLed")) (aCons (eC (.str "NotInCrew")) (aCons (eC (.str "InCrew")) (aCons (eC (.str "InvalidName")) (aCons (eC (.str "InvalidNames")) (aCons (eC (.str "InvalidWord")) (aCons (eC (.str "SameName")) (aCons (eC (.str "NotOpen")) (aCons (eC (.str "InvalidStep")) (aCons (eC (.str "InvalidPaper")) aNil)))))))))))) (gN 2) (sIf (tNot (tOf (eCall f__law_so (aCons (eVar 1) (aCons (eVar 2) aNil)) []))) (sRet (eC (.bl false))) sNil)) (sSeq (sFor (iVal (eTup (aCons (eC (.str "InvalidDeed")) (aCons (eC (.str "InvalidLine")) (aCons (eC (.str "TooMany")) (aCons (eC (.str "Solved")) (aCons (eC (.str "Tied")) (aCons (eC (.str "NotSquare")) (aCons (eC (.str "UnknownName")) (aCons (eC (.str "UnknownStep")) (aCons (eC (.str "NothingLeft")) aNil))))))))))) (gN 2) (sIf (tNot (tOf (eCall f__law_so (aCons (eVar 1) (aCons (eVar 2) aNil)) []))) (sRet (eC (.bl false))) sNil)) (sRet (eC (.bl true)))))))))
def f_law : List D → Sto → Res D := chk 1 (runDef 3 m_law)
theorem ok_law (ev : Ev K mg) : Fn P w K mg base "law" 9 1 f_law := by
  obtain ⟨fd, F⟩ := ev.says.def_ D_law rfl
  refine fn_name (x := "law") (N := N_law) (ps := ["_law_script"]) F sc_law (ev.glo "law") (F.bindsN fun _ _ _ _ _ _ us hl => match us, hl with | [_], _ => rfl) fun cdv A outer s H E hr => ?_
  exact (sss_cons (ss_set sc_law.nd (i := 1) rfl (by first | exact Or.inl rfl | exact Or.inr rfl) (se_fn (ok__law_bag ev) hr (by omega) cx_takes (sa_cons (se_var (pv 0)) sa_nil))) (sss_cons (ss_for cx_own rfl (si_val (se_tup (sa_cons se_str (sa_cons se_str (sa_cons se_str (sa_cons se_str (sa_cons se_str (sa_cons se_str (sa_cons se_str (sa_cons se_str (sa_cons se_str (sa_cons se_str sa_nil)))))))))))) (sg_name (i := 2) sc_law.nd rfl (by first | exact Or.inl rfl | exact Or.inr rfl)) (sss_one (ss_if (st_not (st_val (se_fn (ok__law_so ev) hr (by omega) cx_takes (sa_cons (se_var (pv 1)) (sa_cons (se_var (pv 2)) sa_nil))))) (sss_one (ss_ret se_bl)) sss_nil))) (sss_cons (ss_for cx_own rfl (si_val (se_tup (sa_cons se_str (sa_cons se_str (sa_cons se_str (sa_cons se_str (sa_cons se_str (sa_cons se_str (sa_cons se_str (sa_cons se_str (sa_cons se_str (sa_cons se_str sa_nil)))))))))))) (sg_name (i := 2) sc_law.nd rfl (by first | exact Or.inl rfl | exact Or.inr rfl)) (sss_one (ss_if (st_not (st_val (se_fn (ok__law_so ev) hr (by omega) cx_takes (sa_cons (se_var (pv 1)) (sa_cons (se_var (pv 2)) sa_nil))))) (sss_one (ss_ret se_bl)) sss_nil))) (sss_cons (ss_for cx_own rfl (si_val (se_tup (sa_cons se_str (sa_cons se_str (sa_cons se_str (sa_cons se_str (sa_cons se_str (sa_cons se_str (sa_cons se_str (sa_cons se_str (sa_cons se_str (sa_cons se_str sa_nil)))))))))))) (sg_name (i := 2) sc_law.nd rfl (by first | exact Or.inl rfl | exact Or.inr rfl)) (sss_one (ss_if (st_not (st_val (se_fn (ok__law_so ev) hr (by omega) cx_takes (sa_cons (se_var (pv 1)) (sa_cons (se_var (pv 2)) sa_nil))))) (sss_one (ss_ret se_bl)) sss_nil))) (sss_cons (ss_for cx_own rfl (si_val (se_tup (sa_cons se_str (sa_cons se_str (sa_cons se_str (sa_cons se_str (sa_cons se_str (sa_cons se_str (sa_cons se_str (sa_cons se_str (sa_cons se_str (sa_cons se_str sa_nil)))))))))))) (sg_name (i := 2) sc_law.nd rfl (by first | exact Or.inl rfl | exact Or.inr rfl)) (sss_one (ss_if (st_not (st_val (se_fn (ok__law_so ev) hr (by omega) cx_takes (sa_cons (se_var (pv 1)) (sa_cons (se_var (pv 2)) sa_nil))))) (sss_one (ss_ret se_bl)) sss_nil))) (sss_cons (ss_for cx_own rfl (si_val (se_tup (sa_cons se_str (sa_cons se_str (sa_cons se_str (sa_cons se_str (sa_cons se_str (sa_cons se_str (sa_cons se_str (sa_cons se_str (sa_cons se_str sa_nil))))))))))) (sg_name (i := 2) sc_law.nd rfl (by first | exact Or.inl rfl | exact Or.inr rfl)) (sss_one (ss_if (st_not (st_val (se_fn (ok__law_so ev) hr (by omega) cx_takes (sa_cons (se_var (pv 1)) (sa_cons (se_var (pv 2)) sa_nil))))) (sss_one (ss_ret se_bl)) sss_nil))) (sss_one (ss_ret se_bl))))))))
end K00

set_option linter.all false
set_option maxRecDepth 100000
set_option maxHeartbeats 400000
namespace Sim
open PySem PySem.Spec PyProof.Rows L2
theorem eqD_int (a b : Int) (st : Sto) : eqD (.int a) (.int b) st = .ok (.bl (decide (a = b))) st := by
  show Res.ok (D.bl (a == b)) st = _
  rfl
theorem eqD_str (a b : Str) (st : Sto) (h1 : SeqAt.shaped (.str a) = true) (h2 : SeqAt.shaped (.str b) = true) : eqD (.str a) (.str b) st = .ok (.bl (decide (a = b))) st := by
  have e : eqD (.str a) (.str b) st = (if (SeqAt.shaped (.str a) && SeqAt.shaped (.str b)) = true then .ok (.bl (PyData.eqv (.str a) (.str b))) st else .bad) := rfl
  rw [e, h1, h2]
  rfl
theorem neD_bl (a b : Bool) (st : Sto) : neD (.bl a) (.bl b) st = .ok (.bl (a != b)) st := by
  cases a <;> cases b <;> rfl
@[simp] theorem eVar_def (i : Nat) (σ : Sl) (st : Sto) : eVar i σ st = (match σ[i]? with | some (some d) => .ok d st | _ => .bad) := rfl
@[simp] theorem eC_def (d : D) (σ : Sl) (st : Sto) : eC d σ st = .ok d st := rfl
theorem finR_le {n : Nat} {d : D} {st : Sto} (h : st.length ≤ n) : finR n d st = .ok d st := by unfold finR; rw [if_pos h]
end Sim
namespace K00
open PySem PySem.Spec PyProof.Rows L2 Sim
def bagL (xs : List Int) (i cur seed cnt : Int) : List D := [.lst (xs.map D.int), .int i, .int cur, .int seed, .int cnt]
structure BInv (o : Option O) : Prop where
  ex : ∃ (xs : List Int) (i cur seed cnt : Int), o = some (.lst (bagL xs i cur seed cnt)) ∧ 0 ≤ i ∧ 0 ≤ cur ∧ 0 ≤ seed ∧ seed < 2147483629 ∧ xs.length ≤ 63
section
variable (a b c d e v : D)
theorem ix0 : ixD (.ref 0) (.int 0) [some (.lst [a, b, c, d, e])] = .ok a [some (.lst [a, b, c, d, e])] := rfl
theorem ix1 : ixD (.ref 0) (.int 1) [some (.lst [a, b, c, d, e])] = .ok b [some (.lst [a, b, c, d, e])] := rfl
theorem ix2 : ixD (.ref 0) (.int 2) [some (.lst [a, b, c, d, e])] = .ok c [some (.lst [a, b, c, d, e])] := rfl
theorem ix3 : ixD (.ref 0) (.int 3) [some (.lst [a, b, c, d, e])] = .ok d [some (.lst [a, b, c, d, e])] := rfl
theorem ix4 : ixD (.ref 0) (.int 4) [some (.lst [a, b, c, d, e])] = .ok e [some (.lst [a, b, c, d, e])] := rfl
theorem sd1 : setD (.ref 0) (.int 1) v [some (.lst [a, b, c, d, e])] = some [some (.lst [a, v, c, d, e])] := rfl
theorem sd2 : setD (.ref 0) (.int 2) v [some (.lst [a, b, c, d, e])] = some [some (.lst [a, b, v, d, e])] := rfl
theorem sd3 : setD (.ref 0) (.int 3) v [some (.lst [a, b, c, d, e])] = some [some (.lst [a, b, c, v, e])] := rfl
theorem sd4 : setD (.ref 0) (.int 4) v [some (.lst [a, b, c, d, e])] = some [some (.lst [a, b, c, d, v])] := rfl
end
theorem lenI (xs : List Int) (st : Sto) (h : xs.length ≤ 63) : lenD [.lst (xs.map D.int)] st = .ok (.int xs.length) st := by
  have e : lenD [.lst (xs.map D.int)] st = .ok (.int ((xs.map D.int).length : Nat)) st := rfl
  rw [e, List.length_map]
theorem atX (xs : List Int) (i : Int) (h : 0 ≤ i) (h2 : i < xs.length) (st : Sto) : ∃ x, ixD (.lst (xs.map D.int)) (.int i) st = .ok (.int x) st := by
  have hl : i.toNat < xs.length := by omega
  refine ⟨xs[i.toNat], ?_⟩
  have e : ixD (.lst (xs.map D.int)) (.int i) st = (match atI (xs.map D.int) i with | some d => Res.ok d st | none => .bad) := rfl
  have e2 : atI (xs.map D.int) i = some (.int xs[i.toNat]) := by
    unfold atI ixN
    rw [if_pos h, if_pos (by rw [List.length_map]; exact h2)]
    simp [hl]
  rw [e, e2]
theorem mulC (i : Int) {j : Int} (h : j.natAbs < 2 ^ 64) : mulOk i j = true := by simp [mulOk, h]
theorem divC (i : Int) {j : Int} (h1 : 1 ≤ j) (h2 : j < 2 ^ 64) : divOk i j = true := by
  have : j.natAbs.log2 < 9000 := by
    have : j.natAbs < 2 ^ 64 := by omega
    have := (Nat.log2_lt (by omega : j.natAbs ≠ 0)).mpr this
    omega
  simp [divOk, this]; omega
theorem powC {i : Int} (h1 : 0 ≤ i) (h2 : i < 2147483629) : powOk i 3 = true := by
  have : i.natAbs < 2 ^ 64 := by omega
  simp [powOk, this]
theorem fmod_lt {a b : Int} (h : 1 ≤ b) : 0 ≤ a.fmod b ∧ a.fmod b < b := ⟨Int.fmod_nonneg_of_pos a (by omega), Int.fmod_lt_of_pos a (by omega)⟩
theorem fdiv_nn {a b : Int} (h : 0 ≤ a) (h2 : 1 ≤ b) : 0 ≤ a.fdiv b := Int.fdiv_nonneg h (by omega)
theorem intD_int (i : Int) (st : Sto) : intD [.int i] st = .ok (.int i) st := rfl
theorem draw {o : Option O} (h : BInv o) {L : Int} (h1 : 1 ≤ L) (h2 : L < 2 ^ 64) : ∃ (r : Int) (o' : Option O), f__law_draw [.ref 0, .int L] [o] = .ok (.int r) [o'] ∧ BInv o' ∧ 0 ≤ r ∧ r < L := by
  obtain ⟨xs, i, cur, seed, cnt, rfl, hi, hc, hs, hs2, hx⟩ := h.ex
  have fin : ∀ (cnt cur seed i : Int), 0 ≤ i → 0 ≤ cur → 0 ≤ seed → seed < 2147483629 → BInv (some (.lst (bagL xs i cur seed cnt))) := fun cnt cur seed i a b c d => ⟨xs, i, cur, seed, cnt, rfl, a, b, c, d, hx⟩
  have hL0 : L ≠ 0 := by omega
  have c1 : ∀ i, mulOk i 48271 = true := fun i => mulC i (by decide)
  have c2 : ∀ i, mulOk i 69621 = true := fun i => mulC i (by decide)
  have c3 : ∀ i, mulOk i 30103 = true := fun i => mulC i (by decide)
  have c4 : ∀ i, mulOk i 1299709 = true := fun i => mulC i (by decide)
  have c5 : ∀ i, mulOk i 67 = true := fun i => mulC i (by decide)
  have c6 : ∀ i, divOk i 97 = true := fun i => divC i (by decide) (by decide)
  have c7 : ∀ i, divOk i L = true := fun i => divC i h1 h2
  have c8 : powOk 10 18 = true := by decide +kernel
  by_cases hcur : cur = 0
  · subst hcur
    by_cases hlt : i < xs.length
    · obtain ⟨x, hx1⟩ := atX xs i hi hlt []
      have hat : ∀ st, ixD (.lst (xs.map D.int)) (.int i) st = .ok (.int x) st := fun st => by
        obtain ⟨y, hy⟩ := atX xs i hi hlt st
        have : y = x := by
          have e : ∀ st, ixD (.lst (xs.map D.int)) (.int i) st = (match atI (xs.map D.int) i with | some d => Res.ok d st | none => .bad) := fun _ => rfl
          rw [e] at hx1 hy
          cases q : atI (xs.map D.int) i with
          | none => rw [q] at hy; cases hy
          | some d =>
            rw [q] at hx1 hy
            cases hx1
            cases hy
            rfl
        rw [hy, this]
      by_cases hb : (10 : Int) ^ 18 ≤ x
      · have hp : (0 : Int) < x := by omega
        refine ⟨x.fmod L, _, ?_, fin (cnt + 1) (x.fdiv L) seed (i + 1) (by omega) (fdiv_nn (by omega) h1) hs hs2, (fmod_lt h1).1, (fmod_lt h1).2⟩
        have hb' : (1000000000000000000 : Int) ≤ x := by simpa using hb
        simp [f__law_draw, chk, runDef, m__law_draw, bagL, ix0, ix1, ix2, ix3, ix4, sd1, sd2, sd3, sd4, eqD_int, lenI, hx, hlt, hat, ltI, geI, gtI, modI, fdivI, mulI, powI, c8, hb', hp, hL0, c7, intD_int, finR_le]
      · have hb' : ¬ (1000000000000000000 : Int) ≤ x := by simpa using hb
        have m1 := fmod_lt (a := seed * 69621 + x.fmod 2147483549 * 30103 + 89) (b := 2147483629) (by decide)
        generalize hs1 : (seed * 69621 + x.fmod 2147483549 * 30103 + 89).fmod 2147483629 = s1 at m1
        have m2 := fmod_lt (a := s1 ^ 3 + (cnt + 1) * 1299709 + 60013) (b := 2147483629) (by decide)
        have p1 := powC m1.1 m1.2
        refine ⟨_, _, ?_, fin (cnt + 1) 0 _ (i + 1) (by omega) (by omega) m2.1 m2.2, (fmod_lt (a := ((s1 ^ 3 + (cnt + 1) * 1299709 + 60013).fmod 2147483629).fdiv 97 + ((s1 ^ 3 + (cnt + 1) * 1299709 + 60013).fmod 2147483629).fmod 7901 * 67) h1).1, (fmod_lt h1).2⟩
        simp [hlt, hat, hb', hs1, p1, f__law_draw, chk, runDef, m__law_draw, bagL, ix0, ix1, ix2, ix3, ix4, sd1, sd2, sd3, sd4, eqD_int, lenI, hx, ltI, geI, gtI, modI, fdivI, mulI, powI, c1, c2, c3, c4, c5, c6, c7, c8, hL0, intD_int, finR_le]
    · have m2 := fmod_lt (a := seed ^ 3 + (cnt + 1) * 1299709 + 60013) (b := 2147483629) (by decide)
      have p1 := powC hs hs2
      refine ⟨_, _, ?_, fin (cnt + 1) 0 _ i hi (by omega) m2.1 m2.2, (fmod_lt (a := ((seed ^ 3 + (cnt + 1) * 1299709 + 60013).fmod 2147483629).fdiv 97 + ((seed ^ 3 + (cnt + 1) * 1299709 + 60013).fmod 2147483629).fmod 7901 * 67) h1).1, (fmod_lt h1).2⟩
      simp [hlt, p1, f__law_draw, chk, runDef, m__law_draw, bagL, ix0, ix1, ix2, ix3, ix4, sd1, sd2, sd3, sd4, eqD_int, lenI, hx, ltI, geI, gtI, modI, fdivI, mulI, powI, c1, c2, c3, c4, c5, c6, c7, c8, hL0, intD_int, finR_le]
  · have hp : 0 < cur := by omega
    refine ⟨cur.fmod L, _, ?_, fin (cnt + 1) (cur.fdiv L) seed i hi (fdiv_nn (by omega) h1) hs hs2, (fmod_lt h1).1, (fmod_lt h1).2⟩
    simp [hcur, hp, f__law_draw, chk, runDef, m__law_draw, bagL, ix0, ix1, ix2, ix3, ix4, sd1, sd2, sd3, sd4, eqD_int, lenI, hx, ltI, geI, gtI, modI, fdivI, mulI, powI, c1, c2, c3, c4, c5, c6, c7, c8, hL0, intD_int, finR_le]
end K00

set_option linter.all false
set_option maxRecDepth 100000
set_option maxHeartbeats 1000000
namespace K00
open PySem PySem.Spec PyProof.Rows L2 Sim
inductive Pl : Nat → D → Prop
  | non (n : Nat) : Pl n .non
  | bl (n : Nat) (b : Bool) : Pl n (.bl b)
  | int (n : Nat) (i : Int) : Pl n (.int i)
  | str (n : Nat) (s : Str) (h : SeqAt.shaped (.str s) = true) : Pl n (.str s)
  | lst (n : Nat) (ds : List D) (l : ds.length ≤ 1000) (h : ∀ d ∈ ds, Pl n d) : Pl (n + 1) (.lst ds)
  | tup (n : Nat) (ds : List D) (l : ds.length ≤ 1000) (h : ∀ d ∈ ds, Pl n d) : Pl (n + 1) (.tup ds)
theorem compM_map {f : D → Sto → Res (Option D)} {g : D → D} {st : Sto} : ∀ {ds : List D}, (∀ d ∈ ds, f d st = .ok (some (g d)) st) → compM f ds st = .ok (ds.map g) st
  | [], _ => rfl
  | d :: ds, h => by
    unfold compM
    rw [h d List.mem_cons_self]
    simp only [compM_map (fun e he => h e (List.mem_cons_of_mem _ he)), List.map_cons]
theorem compM_inv {f : D → Sto → Res (Option D)} {P : D → Prop} : ∀ {ds : List D}, (∀ d ∈ ds, ∀ o, BInv o → ∃ y o', f d [o] = .ok (some y) [o'] ∧ BInv o' ∧ P y) → ∀ o, BInv o → ∃ ys o', compM f ds [o] = .ok ys [o'] ∧ BInv o' ∧ ys.length = ds.length ∧ ∀ y ∈ ys, P y
  | [], _, o, h => ⟨[], o, rfl, h, rfl, fun _ h => nomatch h⟩
  | d :: ds, hf, o, h => by
    obtain ⟨y, o1, e1, h1, p1⟩ := hf d List.mem_cons_self o h
    obtain ⟨ys, o2, e2, h2, l2, p2⟩ := compM_inv (fun e he => hf e (List.mem_cons_of_mem _ he)) o1 h1
    refine ⟨y :: ys, o2, ?_, h2, by simp [l2], fun z hz => ?_⟩
    · unfold compM
      rw [e1]
      simp only [e2]
    · rcases List.mem_cons.mp hz with q | q
      · rw [q]; exact p1
      · exact p2 z q
theorem copied {n : Nat} {d : D} (h : Pl n d) : ∀ (m : Nat) (st : Sto), n < m → f__law_copied m [d] st = .ok d st := by
  induction h with
  | non n => intro m st hm; obtain ⟨k, rfl⟩ : ∃ k, m = k + 1 := ⟨m - 1, by omega⟩; simp [f__law_copied, chk, runDef, m__law_copied, isiD, tgOf, isB, tyNames, finR_le]
  | bl n b => intro m st hm; obtain ⟨k, rfl⟩ : ∃ k, m = k + 1 := ⟨m - 1, by omega⟩; simp [f__law_copied, chk, runDef, m__law_copied, isiD, tgOf, isB, tyNames, finR_le]
  | int n i => intro m st hm; obtain ⟨k, rfl⟩ : ∃ k, m = k + 1 := ⟨m - 1, by omega⟩; simp [f__law_copied, chk, runDef, m__law_copied, isiD, tgOf, isB, tyNames, finR_le]
  | str n s hs => intro m st hm; obtain ⟨k, rfl⟩ : ∃ k, m = k + 1 := ⟨m - 1, by omega⟩; simp [f__law_copied, chk, runDef, m__law_copied, isiD, tgOf, isB, tyNames, finR_le]
  | lst n ds l h ih =>
    intro m st hm
    obtain ⟨k, rfl⟩ : ∃ k, m = k + 1 := ⟨m - 1, by omega⟩
    have e : ∀ σ : Sl, compM (compF [1] (gN 1) tTrue (eCall (chk 1 (runDef 2 (m__law_copied k))) (aCons (eVar 1) aNil) []) [σ[0]!, none]) ds st = .ok (ds.map id) st := fun σ => compM_map fun d hd => by
      have := ih d hd k st (by omega)
      unfold f__law_copied at this
      simp [compF, wipeD, this]
    have e2 := e [some (.lst ds)]
    have hl : ds.length ≤ 16777216 := by omega
    simp at e2
    simp [f__law_copied, chk, runDef, m__law_copied, isiD, tgOf, isB, tyNames, eComp, e2, mkL, hl, finR_le]
  | tup n ds l h ih =>
    intro m st hm
    obtain ⟨k, rfl⟩ : ∃ k, m = k + 1 := ⟨m - 1, by omega⟩
    have e2 : compM (compF [1] (gN 1) tTrue (eCall (chk 1 (runDef 2 (m__law_copied k))) (aCons (eVar 1) aNil) []) [some (.tup ds), none]) ds st = .ok (ds.map id) st := compM_map fun d hd => by
      have := ih d hd k st (by omega)
      unfold f__law_copied at this
      simp [compF, wipeD, this]
    have hl : ds.length ≤ 16777216 := by omega
    simp at e2
    simp [f__law_copied, chk, runDef, m__law_copied, isiD, tgOf, isB, tyNames, eComp, e2, mkL, hl, tupleD, itemsOf, finR_le]
end K00

set_option linter.all false
set_option maxRecDepth 100000
set_option maxHeartbeats 1000000
namespace K00
open PySem PySem.Spec PyProof.Rows L2 Sim
theorem eqD_blS (b : Bool) (st : Sto) : eqD (.bl b) (.bl b) st = .ok (.bl true) st := by cases b <;> rfl
theorem zip_mem : ∀ {as bs : List D} {d : D}, d ∈ zipD as bs → ∃ a b, d = .tup [a, b]
  | [], _, d, h => by simp [zipD] at h
  | _ :: _, [], d, h => by simp [zipD] at h
  | a :: as, b :: bs, d, h => by
    unfold zipD at h
    rcases List.mem_cons.mp h with q | q
    · exact ⟨a, b, q⟩
    · exact zip_mem q
theorem zip_self : ∀ {as : List D} {d : D}, d ∈ zipD as as → ∃ a ∈ as, d = .tup [a, a]
  | [], d, h => by simp [zipD] at h
  | a :: as, d, h => by
    unfold zipD at h
    rcases List.mem_cons.mp h with q | q
    · exact ⟨a, List.mem_cons_self, q⟩
    · obtain ⟨b, hb, e⟩ := zip_self q
      exact ⟨b, List.mem_cons_of_mem _ hb, e⟩
theorem allB_rep : ∀ {l : List D}, (∀ d ∈ l, d = .bl true) → ∃ bs : List Bool, Sim.allB l = some bs ∧ (bs.all fun b => b) = true
  | [], _ => ⟨[], rfl, rfl⟩
  | d :: l, h => by
    obtain ⟨bs, e1, e2⟩ := allB_rep (fun e he => h e (List.mem_cons_of_mem _ he))
    have e := h d List.mem_cons_self
    subst e
    exact ⟨true :: bs, by simp [Sim.allB, e1], by simp [e2]⟩
theorem like_seq {k : Nat} {ds : List D} {st : Sto} (l : ds.length ≤ 1000) (ih : ∀ d ∈ ds, f__law_like k [d, d] st = .ok (.bl true) st) (x : D) :
    ∃ ys : List D, compM (compF [2, 3] (gT 2 (gsCons (gN 2) (gsCons (gN 3) gsNil))) tTrue (eCall (chk 2 (runDef 4 (m__law_like k))) (aCons (eVar 2) (aCons (eVar 3) aNil)) []) [some x, some x, none, none]) (zipD ds ds) st = .ok ys st ∧ ys.length ≤ 16777216 ∧ allD [.lst ys] st = .ok (.bl true) st := by
  have e : compM (compF [2, 3] (gT 2 (gsCons (gN 2) (gsCons (gN 3) gsNil))) tTrue (eCall (chk 2 (runDef 4 (m__law_like k))) (aCons (eVar 2) (aCons (eVar 3) aNil)) []) [some x, some x, none, none]) (zipD ds ds) st = .ok ((zipD ds ds).map fun _ => .bl true) st := compM_map fun d hd => by
    obtain ⟨a, ha, rfl⟩ := zip_self hd
    have := ih a ha
    unfold f__law_like at this
    simp [compF, wipeD, this]
  obtain ⟨bs, e1, e2⟩ := allB_rep (l := (zipD ds ds).map fun _ => D.bl true) (fun d hd => by
    obtain ⟨_, _, q⟩ := List.mem_map.mp hd
    exact q.symm)
  refine ⟨_, e, by rw [List.length_map, zipD_len]; omega, ?_⟩
  show (match Sim.allB _ with | some bs => Res.ok (D.bl (bs.all fun b => b)) st | none => .bad) = _
  rw [e1]
  simp only [e2]
theorem like {n : Nat} {d : D} (h : Pl n d) : ∀ (m : Nat) (st : Sto), n < m → f__law_like m [d, d] st = .ok (.bl true) st := by
  induction h with
  | non n => intro m st hm; obtain ⟨k, rfl⟩ : ∃ k, m = k + 1 := ⟨m - 1, by omega⟩; simp [f__law_like, chk, runDef, m__law_like, isiD, tgOf, isB, isB2, tyNames, finR_le, neD_bl, isN]
  | bl n b => intro m st hm; obtain ⟨k, rfl⟩ : ∃ k, m = k + 1 := ⟨m - 1, by omega⟩; simp [f__law_like, chk, runDef, m__law_like, isiD, tgOf, isB, isB2, tyNames, finR_le, neD_bl, isN, eqD_blS]
  | int n i => intro m st hm; obtain ⟨k, rfl⟩ : ∃ k, m = k + 1 := ⟨m - 1, by omega⟩; simp [f__law_like, chk, runDef, m__law_like, isiD, tgOf, isB, isB2, tyNames, finR_le, neD_bl, isN, eqD_int]
  | str n s hs => intro m st hm; obtain ⟨k, rfl⟩ : ∃ k, m = k + 1 := ⟨m - 1, by omega⟩; simp [f__law_like, chk, runDef, m__law_like, isiD, tgOf, isB, isB2, tyNames, finR_le, neD_bl, isN, eqD_str _ _ _ hs hs]
  | lst n ds l h ih =>
    intro m st hm
    obtain ⟨k, rfl⟩ : ∃ k, m = k + 1 := ⟨m - 1, by omega⟩
    obtain ⟨ys, e1, e2, e3⟩ := like_seq l (fun d hd => ih d hd k st (by omega)) (.lst ds)
    have e4 : lenD [.lst ds] st = .ok (.int ds.length) st := rfl
    simp [f__law_like, chk, runDef, m__law_like, isiD, tgOf, isB, isB2, tyNames, finR_le, neD_bl, isN, eComp, e4, eqD_int, mkL, e2] at e1 e3 ⊢
    simp [e1, e2, e3, finR_le]
  | tup n ds l h ih =>
    intro m st hm
    obtain ⟨k, rfl⟩ : ∃ k, m = k + 1 := ⟨m - 1, by omega⟩
    obtain ⟨ys, e1, e2, e3⟩ := like_seq l (fun d hd => ih d hd k st (by omega)) (.tup ds)
    have e4 : lenD [.tup ds] st = .ok (.int ds.length) st := rfl
    simp [f__law_like, chk, runDef, m__law_like, isiD, tgOf, isB, isB2, tyNames, finR_le, neD_bl, isN, eComp, e4, eqD_int, mkL, e2] at e1 e3 ⊢
    simp [e1, e2, e3, finR_le]
end K00

set_option linter.all false
set_option maxRecDepth 100000
set_option maxHeartbeats 1000000
namespace K00
open PySem PySem.Spec PyProof.Rows L2 Sim
open PySem.PyData (strOk)
theorem ok_app (a b : Str) (h1 : strOk a = true) (h2 : strOk b = true) : strOk (a ++ b) = true := by
  have e : strOk (a ++ b) = (a.cps ++ b.cps).all (· < 0x110000) := rfl
  rw [e, Array.all_append]
  exact Bool.and_eq_true_iff.mpr ⟨h1, h2⟩
theorem ok_join (s : Str) (hs : strOk s = true) : ∀ ss : List Str, (∀ x ∈ ss, strOk x = true) → strOk (Txt.join s ss) = true := by
  intro ss h
  have e : Txt.join s ss = Str.join s ss := StrLaws.glued_eq_join ..
  rw [e]
  induction ss with
  | nil => kernel_rfl
  | cons x r ih =>
    cases r with
    | nil => exact h x List.mem_cons_self
    | cons y r =>
      show strOk (x ++ s ++ Str.join s (y :: r)) = true
      exact ok_app _ _ (ok_app _ _ (h x List.mem_cons_self) hs) (ih (fun z hz => h z (List.mem_cons_of_mem _ hz)) (StrLaws.glued_eq_join ..))
theorem shaped_str {s : Str} (h : strOk s = true) : SeqAt.shaped (.str s) = true := by
  unfold SeqAt.shaped
  refine Bool.and_eq_true_iff.mpr ⟨h, rfl⟩
theorem ixL (ds : List D) (r : Int) (h : 0 ≤ r) (h2 : r < ds.length) (st : Sto) : ∃ d ∈ ds, ixD (.lst ds) (.int r) st = .ok d st := by
  have hl : r.toNat < ds.length := by omega
  refine ⟨ds[r.toNat], List.getElem_mem hl, ?_⟩
  have e : ixD (.lst ds) (.int r) st = (match atI ds r with | some d => Res.ok d st | none => .bad) := rfl
  have e2 : atI ds r = some ds[r.toNat] := by
    unfold atI ixN
    rw [if_pos h, if_pos h2]
    simp [hl]
  rw [e, e2]
theorem of_lst {o : Option O} (h : BInv o) {ds : List D} (h1 : 1 ≤ ds.length) (h2 : ds.length ≤ 1000) : ∃ d ∈ ds, ∃ o', f__law_of [.ref 0, .lst ds] [o] = .ok d [o'] ∧ BInv o' := by
  obtain ⟨r, o', e, hb, a1, a2⟩ := draw h (L := ds.length) (by omega) (by omega)
  obtain ⟨d, hd, e2⟩ := ixL ds r a1 a2 [o']
  have e4 : ∀ st, lenD [.lst ds] st = .ok (.int ds.length) st := fun _ => rfl
  refine ⟨d, hd, o', ?_, hb⟩
  simp [f__law_of, chk, runDef, m__law_of, e4, e, e2, finR_le]
theorem of_str {o : Option O} (h : BInv o) {z : Str} (h1 : 1 ≤ z.length) (h2 : z.length ≤ 1000) (hz : strOk z = true) : ∃ s o', f__law_of [.ref 0, .str z] [o] = .ok (.str s) [o'] ∧ BInv o' ∧ strOk s = true ∧ s.length = 1 := by
  obtain ⟨r, o', e, hb, a1, a2⟩ := draw h (L := z.length) (by omega) (by omega)
  have hsz : z.length = z.cps.toList.length := by rfl
  have hl : r.toNat < z.cps.toList.length := by omega
  have e4 : ∀ st, lenD [.str z] st = .ok (.int z.length) st := fun st => by
    have q : lenD [.str z] st = if z.length ≤ line then .ok (.int (z.length : Nat)) st else .bad := rfl
    have hln : line = 16777216 := rfl
    rw [q, if_pos (by omega)]
  have e5 : ixD (.str z) (.int r) [o'] = .ok (.str ⟨#[z.cps.toList[r.toNat]]⟩) [o'] := by
    have q : ixD (.str z) (.int r) [o'] = if z.length ≤ line then (match atI z.cps.toList r with | some c => Res.ok (.str ⟨#[c]⟩) [o'] | none => .bad) else .bad := rfl
    have q2 : atI z.cps.toList r = some z.cps.toList[r.toNat] := by
      unfold atI ixN
      rw [if_pos a1, if_pos (by omega)]
      simp at hl
      simp [hl]
    have hln : line = 16777216 := rfl
    rw [q, if_pos (by omega), q2]
  refine ⟨⟨#[z.cps.toList[r.toNat]]⟩, o', ?_, hb, ?_, rfl⟩
  · have e' : f__law_draw [D.ref 0, D.int (z.length : Int)] [o] = .ok (.int r) [o'] := e
    simp [f__law_of, chk, runDef, m__law_of, e4, e', e5, finR_le]
  · have q := Array.all_eq_true.mp hz r.toNat (by simpa using hl)
    simpa [strOk] using q
end K00

set_option linter.all false
set_option maxRecDepth 100000
set_option maxHeartbeats 1000000
namespace K00
open PySem PySem.Spec PyProof.Rows L2 Sim
open PySem.PyData (strOk)
theorem allS_of : ∀ {ys : List D}, (∀ y ∈ ys, ∃ s : Str, y = .str s ∧ strOk s = true ∧ s.length = 1) → ∃ ss : List Str, allS ys = some ss ∧ ss.length = ys.length ∧ (∀ s ∈ ss, strOk s = true) ∧ (ss.map (·.length)).sum = ys.length
  | [], _ => ⟨[], rfl, rfl, fun _ h => (nomatch h), rfl⟩
  | y :: ys, h => by
    obtain ⟨ss, e1, e2, e3, e4⟩ := allS_of (fun z hz => h z (List.mem_cons_of_mem _ hz))
    obtain ⟨s, rfl, h1, h2⟩ := h y List.mem_cons_self
    refine ⟨s :: ss, by simp [allS, e1], by simp [e2], fun z hz => ?_, by simp [e4, h2]; omega⟩
    rcases List.mem_cons.mp hz with q | q
    · rw [q]; exact h1
    · exact e3 z q
theorem rangeM {o : Option O} (h : BInv o) {n : Int} (h0 : 0 ≤ n) (h1 : n < 100) (st : Sto) : big n = true := by
  simp [big]; omega
theorem intsL_mem {n : Nat} {d : D} (h : d ∈ intsL 0 n) : ∃ i : Int, d = .int i := by
  unfold intsL at h
  obtain ⟨i, _, e⟩ := List.mem_map.mp h
  exact ⟨_, e.symm⟩
abbrev lit : Str := "ab01.-#:=? xyzAZ~\n"
theorem eIf_L (v : Int) (σ : Sl) (st : Sto) (hσ : σ[1]? = some (some (.int v))) : eIf (tOf (eBin gtI (eVar 1) (eC (.int 0)))) (eC (.int 10)) (eC (.int 8)) σ st = .ok (.int (if 0 < v then 10 else 8)) st := by
  by_cases h : 0 < v <;> simp [hσ, gtI, h]
theorem low {o : Option O} (h : BInv o) (n m : Nat) (v r : Int) (o1 : Option O) (e1 : f__law_draw [.ref 0, .int (if 0 < v then 10 else 8)] [o] = .ok (.int r) [o1]) (b1 : BInv o1) (r0 : 0 ≤ r) (r1 : r < 8) :
    ∃ d o', f__law_thing (n + 1) [.ref 0, .int v] [o] = .ok d [o'] ∧ BInv o' ∧ Pl m d := by
  have eL := eIf_L v [some (.ref 0), some (.int v), none, none, none] [o] rfl
  by_cases c0 : r = 0
  · obtain ⟨d, hd, o2, e2, b2⟩ := of_lst b1 (ds := [.non, .bl true, .bl false]) (by decide) (by decide)
    refine ⟨d, o2, ?_, b2, ?_⟩
    · simp only [f__law_thing, chk, runDef, m__law_thing]
      simp [-eIf, eL, ltI, e1, e2, c0, eqD_int, mkL, line, finR_le]
    · simp at hd
      rcases hd with rfl | rfl | rfl
      · exact .non _
      · exact .bl _ _
      · exact .bl _ _
  · by_cases c1 : r < 4
    · obtain ⟨x, o2, e2, b2, _, _⟩ := draw b1 (L := 1000000000) (by decide) (by decide)
      obtain ⟨y, o3, e3, b3, _, _⟩ := draw b2 (L := 1000000000) (by decide) (by decide)
      obtain ⟨d, hd, o4, e4, b4⟩ := of_lst b3 (ds := [.int 0, .int 1, .int (-1), .int x, .int (-y), .int (10 ^ 59)]) (by simp) (by simp)
      have c59 : powOk 10 59 = true := by decide +kernel
      refine ⟨d, o4, ?_, b4, ?_⟩
      · simp only [f__law_thing, chk, runDef, m__law_thing]
        simp at e4
        simp [-eIf, eL, ltI, e1, e2, e3, e4, c0, c1, eqD_int, mkL, line, finR_le, powI, c59]
      · simp only [List.mem_cons, List.not_mem_nil, or_false] at hd
        rcases hd with rfl | rfl | rfl | rfl | rfl | rfl <;> exact .int _ _
    · obtain ⟨q, o2, e2, b2, q0, q1⟩ := draw b1 (L := 5) (by decide) (by decide)
      have hbig : big q = true := by simp [big]; omega
      obtain ⟨ys, o3, e3, b3, l3, p3⟩ := compM_inv (P := fun y => ∃ s : Str, y = .str s ∧ strOk s = true ∧ s.length = 1) (f := compF [4] (gN 4) tTrue (eCall f__law_of (aCons (eVar 0) (aCons (eC (.str lit)) aNil)) []) [some (.ref 0), some (.int v), some (.int r), none, none]) (ds := intsL 0 q.toNat) (fun d hd o' ho' => by
        obtain ⟨s, o5, e5, b5, h5, h6⟩ := of_str ho' (z := lit) (by decide +kernel) (by decide +kernel) (by decide +kernel)
        exact ⟨_, o5, by simp [compF, wipeD, e5], b5, s, rfl, h5, h6⟩) o2 b2
      obtain ⟨ss, a1, a2, a3, a4⟩ := allS_of p3
      have l4 : ys.length ≤ 5 := by rw [l3, intsL_len]; omega
      refine ⟨.str (Txt.join (Str.ofString "") ss), o3, ?_, b3, .str _ _ (shaped_str (ok_join _ (by decide +kernel) ss a3))⟩
      have hj : (ss.map (·.length)).sum + ss.length * (Str.ofString "").length ≤ 16777216 := by
        rw [a4, a2]
        have : (Str.ofString "").length = 0 := by decide +kernel
        rw [this]
        omega
      have ej : joinD (Str.ofString "") (.lst ys) [o3] = .ok (.str (Txt.join (Str.ofString "") ss)) [o3] := by
        simp only [joinD, itemsOf_lst, a1]
        rw [if_pos hj]
      have hl2 : ys.length ≤ 16777216 := by omega
      simp only [f__law_thing, chk, runDef, m__law_thing]
      simp [-eIf, eL, ltI, e1, e2, c0, c1, r1, eqD_int, mkL, line, finR_le, hbig, eComp, e3, hl2, eJoin, ej]
theorem thing : ∀ (k : Nat) (o : Option O), BInv o → ∃ d o', f__law_thing (k + 1) [.ref 0, .int k] [o] = .ok d [o'] ∧ BInv o' ∧ Pl k d := by
  intro k
  induction k with
  | zero =>
    intro o h
    obtain ⟨r, o1, e1, b1, r0, r1⟩ := draw h (L := 8) (by decide) (by decide)
    exact low h 0 0 0 r o1 e1 b1 r0 r1
  | succ k ih =>
    intro o h
    obtain ⟨r, o1, e1, b1, r0, r1⟩ := draw h (L := 10) (by decide) (by decide)
    have hv : (0 : Int) < ((k + 1 : Nat) : Int) := by omega
    by_cases c : r < 8
    · exact low h (k + 1) (k + 1) ((k + 1 : Nat) : Int) r o1 (by rw [if_pos hv]; exact e1) b1 r0 c
    · have ek : ((k + 1 : Nat) : Int) - 1 = (k : Int) := by omega
      generalize ((k + 1 : Nat) : Int) = v at hv ek
      have eL := eIf_L v [some (.ref 0), some (.int v), none, none, none] [o] rfl
      rw [if_pos hv] at eL
      obtain ⟨q, o2, e2, b2, q0, q1⟩ := draw b1 (L := 4) (by decide) (by decide)
      have hbig : big q = true := by simp [big]; omega
      obtain ⟨ys, o3, e3, b3, l3, p3⟩ := compM_inv (P := fun y => Pl k y) (f := compF [4] (gN 4) tTrue (eCall (chk 2 (runDef 5 (m__law_thing (k + 1)))) (aCons (eVar 0) (aCons (eBin subI (eVar 1) (eC (.int 1))) aNil)) []) [some (.ref 0), some (.int v), some (.int r), none, none]) (ds := intsL 0 q.toNat) (fun d hd o' ho' => by
        obtain ⟨y, o5, e5, b5, h5⟩ := ih o' ho'
        refine ⟨y, o5, ?_, b5, h5⟩
        unfold f__law_thing at e5
        simp [compF, wipeD, subI, ek, e5]) o2 b2
      have l4 : ys.length ≤ 5 := by rw [l3, intsL_len]; omega
      have hl2 : ys.length ≤ 16777216 := by omega
      have c0 : ¬ r = 0 := by omega
      have c1 : ¬ r < 4 := by omega
      by_cases c8 : r = 8
      · refine ⟨.lst ys, o3, ?_, b3, .lst _ _ (by omega) p3⟩
        subst c8
        show chk 2 (runDef 5 (m__law_thing (k + 1 + 1))) _ _ = _
        rw [m__law_thing.eq_2 (k + 1)]
        generalize m__law_thing (k + 1) = mm at e3 ⊢
        simp only [chk, runDef]
        simp [-eIf, eL, ltI, e1, e2, eqD_int, mkL, line, finR_le, hbig, eComp, e3, hl2]
        simp [eqD_int, finR_le]
      · refine ⟨.tup ys, o3, ?_, b3, .tup _ _ (by omega) p3⟩
        show chk 2 (runDef 5 (m__law_thing (k + 1 + 1))) _ _ = _
        rw [m__law_thing.eq_2 (k + 1)]
        generalize m__law_thing (k + 1) = mm at e3 ⊢
        simp only [chk, runDef]
        simp [-eIf, eL, ltI, e1, e2, c0, c1, c, c8, eqD_int, mkL, line, finR_le, hbig, eComp, e3, hl2]
        simp [eqD_int, finR_le, c8, tupleD, itemsOf]
end K00

set_option linter.all false
set_option maxRecDepth 100000
set_option maxHeartbeats 1000000
namespace K00
open PySem PySem.Spec PyProof.Rows L2 Sim
structure PickOk (p : Str) : Prop where
  ex : ∃ (W : List D) (fs : D → D → List (Str × D)) (K1 K2 : List D), W.length ≤ 2 ∧ SeqAt.shaped (.str p) = true ∧ (∀ o : Option O, f__law_words [.str p] [o] = .ok (.tup W) [o]) ∧ (∀ o : Option O, f__law_due [.str p] [o] = .ok (.lst (K1 ++ K2)) [o]) ∧
    (∀ (a b : D) (o : Option O) (w : Int), 0 ≤ w → w < 4 → f__law_made [.str p, .tup [a, b], .int w] [o] = .ok (.ins p (fs a b)) [o]) ∧
    (∀ (a b : D) (o : Option O), m__law_told [some (.ins p (fs a b)), some (.tup W), none, none] [o] = .rt (.lst (.str p :: [a, b].take W.length)) [o, none]) ∧
    (∀ (a b : D) (o : Option O), m__law_kinds [some (.ins p (fs a b)), none, none] [o] = .rt (.lst K1) [o, none]) ∧
    (∀ (a b : D) (o : Option O), m__law_kinds_too [some (.ins p (fs a b)), none, none] [o] = .rt (.lst K2) [o, none]) ∧
    D.unds 1 K1 = true ∧ D.unds 1 K2 = true ∧ (K1 ++ K2).length ≤ 10 ∧ (∀ st, neD (.lst (K1 ++ K2)) (.lst (K1 ++ K2)) st = .ok (.bl false) st)
theorem ways {P : Int → Prop} (h0 : P 0) (h1 : P 1) (h2 : P 2) (h3 : P 3) (w : Int) (a : 0 ≤ w) (b : w < 4) : P w := by
  have : w = 0 ∨ w = 1 ∨ w = 2 ∨ w = 3 := by omega
  rcases this with rfl | rfl | rfl | rfl
  · exact h0
  · exact h1
  · exact h2
  · exact h3
theorem pick_InvalidNumber : PickOk "InvalidNumber" := ⟨[.str "value"], fun a b => [("code", .str "InvalidNumber"), ("value", a)], [.str "InvalidNumber"], [.str "CreepError", .str "ValueError"], by decide, by decide +kernel, fun _ => by kernel_rfl, fun _ => by kernel_rfl,
  fun a b o => ways (P := fun w => f__law_made [.str "InvalidNumber", .tup [a, b], .int w] [o] = _) (by kernel_rfl) (by kernel_rfl) (by kernel_rfl) (by kernel_rfl),
  fun a b o => by kernel_rfl, fun a b o => by kernel_rfl, fun a b o => by kernel_rfl, by kernel_rfl, by kernel_rfl, by decide, fun st => by kernel_rfl⟩
theorem pick_InvalidFraction : PickOk "InvalidFraction" := ⟨[.str "at"], fun a b => [("code", .str "InvalidFraction"), ("at", a)], [.str "InvalidFraction"], [.str "CreepError", .str "ValueError"], by decide, by decide +kernel, fun _ => by kernel_rfl, fun _ => by kernel_rfl,
  fun a b o => ways (P := fun w => f__law_made [.str "InvalidFraction", .tup [a, b], .int w] [o] = _) (by kernel_rfl) (by kernel_rfl) (by kernel_rfl) (by kernel_rfl),
  fun a b o => by kernel_rfl, fun a b o => by kernel_rfl, fun a b o => by kernel_rfl, by kernel_rfl, by kernel_rfl, by decide, fun st => by kernel_rfl⟩
theorem pick_InvalidOrder : PickOk "InvalidOrder" := ⟨[.str "value"], fun a b => [("code", .str "InvalidOrder"), ("value", a)], [.str "InvalidOrder"], [.str "CreepError", .str "ValueError"], by decide, by decide +kernel, fun _ => by kernel_rfl, fun _ => by kernel_rfl,
  fun a b o => ways (P := fun w => f__law_made [.str "InvalidOrder", .tup [a, b], .int w] [o] = _) (by kernel_rfl) (by kernel_rfl) (by kernel_rfl) (by kernel_rfl),
  fun a b o => by kernel_rfl, fun a b o => by kernel_rfl, fun a b o => by kernel_rfl, by kernel_rfl, by kernel_rfl, by decide, fun st => by kernel_rfl⟩
theorem pick_OrderTooLow : PickOk "OrderTooLow" := ⟨[.str "have", .str "wanted"], fun a b => [("code", .str "OrderTooLow"), ("wanted", b), ("have", a)], [.str "OrderTooLow"], [.str "CreepError", .str "ValueError"], by decide, by decide +kernel, fun _ => by kernel_rfl, fun _ => by kernel_rfl,
  fun a b o => ways (P := fun w => f__law_made [.str "OrderTooLow", .tup [a, b], .int w] [o] = _) (by kernel_rfl) (by kernel_rfl) (by kernel_rfl) (by kernel_rfl),
  fun a b o => by kernel_rfl, fun a b o => by kernel_rfl, fun a b o => by kernel_rfl, by kernel_rfl, by kernel_rfl, by decide, fun st => by kernel_rfl⟩
theorem pick_UnlikeOrders : PickOk "UnlikeOrders" := ⟨[.str "one", .str "other"], fun a b => [("code", .str "UnlikeOrders"), ("other", b), ("one", a)], [.str "UnlikeOrders"], [.str "CreepError", .str "ValueError"], by decide, by decide +kernel, fun _ => by kernel_rfl, fun _ => by kernel_rfl,
  fun a b o => ways (P := fun w => f__law_made [.str "UnlikeOrders", .tup [a, b], .int w] [o] = _) (by kernel_rfl) (by kernel_rfl) (by kernel_rfl) (by kernel_rfl),
  fun a b o => by kernel_rfl, fun a b o => by kernel_rfl, fun a b o => by kernel_rfl, by kernel_rfl, by kernel_rfl, by decide, fun st => by kernel_rfl⟩
theorem pick_InvalidPlace : PickOk "InvalidPlace" := ⟨[.str "value"], fun a b => [("code", .str "InvalidPlace"), ("value", a)], [.str "InvalidPlace"], [.str "CreepError", .str "ValueError"], by decide, by decide +kernel, fun _ => by kernel_rfl, fun _ => by kernel_rfl,
  fun a b o => ways (P := fun w => f__law_made [.str "InvalidPlace", .tup [a, b], .int w] [o] = _) (by kernel_rfl) (by kernel_rfl) (by kernel_rfl) (by kernel_rfl),
  fun a b o => by kernel_rfl, fun a b o => by kernel_rfl, fun a b o => by kernel_rfl, by kernel_rfl, by kernel_rfl, by decide, fun st => by kernel_rfl⟩
theorem pick_InvalidPower : PickOk "InvalidPower" := ⟨[.str "value"], fun a b => [("code", .str "InvalidPower"), ("value", a)], [.str "InvalidPower"], [.str "CreepError", .str "ValueError"], by decide, by decide +kernel, fun _ => by kernel_rfl, fun _ => by kernel_rfl,
  fun a b o => ways (P := fun w => f__law_made [.str "InvalidPower", .tup [a, b], .int w] [o] = _) (by kernel_rfl) (by kernel_rfl) (by kernel_rfl) (by kernel_rfl),
  fun a b o => by kernel_rfl, fun a b o => by kernel_rfl, fun a b o => by kernel_rfl, by kernel_rfl, by kernel_rfl, by decide, fun st => by kernel_rfl⟩
theorem pick_InvalidTimes : PickOk "InvalidTimes" := ⟨[.str "value"], fun a b => [("code", .str "InvalidTimes"), ("value", a)], [.str "InvalidTimes"], [.str "CreepError", .str "ValueError"], by decide, by decide +kernel, fun _ => by kernel_rfl, fun _ => by kernel_rfl,
  fun a b o => ways (P := fun w => f__law_made [.str "InvalidTimes", .tup [a, b], .int w] [o] = _) (by kernel_rfl) (by kernel_rfl) (by kernel_rfl) (by kernel_rfl),
  fun a b o => by kernel_rfl, fun a b o => by kernel_rfl, fun a b o => by kernel_rfl, by kernel_rfl, by kernel_rfl, by decide, fun st => by kernel_rfl⟩
theorem pick_InvalidText : PickOk "InvalidText" := ⟨[.str "at"], fun a b => [("code", .str "InvalidText"), ("at", a)], [.str "InvalidText"], [.str "CreepError", .str "ValueError"], by decide, by decide +kernel, fun _ => by kernel_rfl, fun _ => by kernel_rfl,
  fun a b o => ways (P := fun w => f__law_made [.str "InvalidText", .tup [a, b], .int w] [o] = _) (by kernel_rfl) (by kernel_rfl) (by kernel_rfl) (by kernel_rfl),
  fun a b o => by kernel_rfl, fun a b o => by kernel_rfl, fun a b o => by kernel_rfl, by kernel_rfl, by kernel_rfl, by decide, fun st => by kernel_rfl⟩
theorem pick_InvalidTable : PickOk "InvalidTable" := ⟨[.str "at"], fun a b => [("code", .str "InvalidTable"), ("at", a)], [.str "InvalidTable"], [.str "CreepError", .str "ValueError"], by decide, by decide +kernel, fun _ => by kernel_rfl, fun _ => by kernel_rfl,
  fun a b o => ways (P := fun w => f__law_made [.str "InvalidTable", .tup [a, b], .int w] [o] = _) (by kernel_rfl) (by kernel_rfl) (by kernel_rfl) (by kernel_rfl),
  fun a b o => by kernel_rfl, fun a b o => by kernel_rfl, fun a b o => by kernel_rfl, by kernel_rfl, by kernel_rfl, by decide, fun st => by kernel_rfl⟩
theorem pick_CantTurn : PickOk "CantTurn" := ⟨[], fun a b => [("code", .str "CantTurn")], [.str "CantTurn"], [.str "CreepError", .str "ValueError"], by decide, by decide +kernel, fun _ => by kernel_rfl, fun _ => by kernel_rfl,
  fun a b o => ways (P := fun w => f__law_made [.str "CantTurn", .tup [a, b], .int w] [o] = _) (by kernel_rfl) (by kernel_rfl) (by kernel_rfl) (by kernel_rfl),
  fun a b o => by kernel_rfl, fun a b o => by kernel_rfl, fun a b o => by kernel_rfl, by kernel_rfl, by kernel_rfl, by decide, fun st => by kernel_rfl⟩
theorem pick_NotSlow : PickOk "NotSlow" := ⟨[.str "first"], fun a b => [("code", .str "NotSlow"), ("first", a)], [.str "NotSlow"], [.str "CreepError", .str "ValueError"], by decide, by decide +kernel, fun _ => by kernel_rfl, fun _ => by kernel_rfl,
  fun a b o => ways (P := fun w => f__law_made [.str "NotSlow", .tup [a, b], .int w] [o] = _) (by kernel_rfl) (by kernel_rfl) (by kernel_rfl) (by kernel_rfl),
  fun a b o => by kernel_rfl, fun a b o => by kernel_rfl, fun a b o => by kernel_rfl, by kernel_rfl, by kernel_rfl, by decide, fun st => by kernel_rfl⟩
theorem pick_NotOne : PickOk "NotOne" := ⟨[.str "first"], fun a b => [("code", .str "NotOne"), ("first", a)], [.str "NotOne"], [.str "CreepError", .str "ValueError"], by decide, by decide +kernel, fun _ => by kernel_rfl, fun _ => by kernel_rfl,
  fun a b o => ways (P := fun w => f__law_made [.str "NotOne", .tup [a, b], .int w] [o] = _) (by kernel_rfl) (by kernel_rfl) (by kernel_rfl) (by kernel_rfl),
  fun a b o => by kernel_rfl, fun a b o => by kernel_rfl, fun a b o => by kernel_rfl, by kernel_rfl, by kernel_rfl, by decide, fun st => by kernel_rfl⟩
theorem pick_NotUnit : PickOk "NotUnit" := ⟨[.str "line", .str "place"], fun a b => [("code", .str "NotUnit"), ("place", b), ("line", a)], [.str "NotUnit"], [.str "CreepError", .str "ValueError"], by decide, by decide +kernel, fun _ => by kernel_rfl, fun _ => by kernel_rfl,
  fun a b o => ways (P := fun w => f__law_made [.str "NotUnit", .tup [a, b], .int w] [o] = _) (by kernel_rfl) (by kernel_rfl) (by kernel_rfl) (by kernel_rfl),
  fun a b o => by kernel_rfl, fun a b o => by kernel_rfl, fun a b o => by kernel_rfl, by kernel_rfl, by kernel_rfl, by decide, fun st => by kernel_rfl⟩
theorem pick_NotATable : PickOk "NotATable" := ⟨[.str "line", .str "place"], fun a b => [("code", .str "NotATable"), ("place", b), ("line", a)], [.str "NotATable"], [.str "CreepError", .str "ValueError"], by decide, by decide +kernel, fun _ => by kernel_rfl, fun _ => by kernel_rfl,
  fun a b o => ways (P := fun w => f__law_made [.str "NotATable", .tup [a, b], .int w] [o] = _) (by kernel_rfl) (by kernel_rfl) (by kernel_rfl) (by kernel_rfl),
  fun a b o => by kernel_rfl, fun a b o => by kernel_rfl, fun a b o => by kernel_rfl, by kernel_rfl, by kernel_rfl, by decide, fun st => by kernel_rfl⟩
theorem pick_DividedByZero : PickOk "DividedByZero" := ⟨[], fun a b => [("code", .str "DividedByZero")], [.str "DividedByZero"], [.str "NoAnswer", .str "ArithmeticError"], by decide, by decide +kernel, fun _ => by kernel_rfl, fun _ => by kernel_rfl,
  fun a b o => ways (P := fun w => f__law_made [.str "DividedByZero", .tup [a, b], .int w] [o] = _) (by kernel_rfl) (by kernel_rfl) (by kernel_rfl) (by kernel_rfl),
  fun a b o => by kernel_rfl, fun a b o => by kernel_rfl, fun a b o => by kernel_rfl, by kernel_rfl, by kernel_rfl, by decide, fun st => by kernel_rfl⟩
theorem pick_IsStill : PickOk "IsStill" := ⟨[.str "have"], fun a b => [("code", .str "IsStill"), ("have", a)], [.str "IsStill"], [.str "CreepError", .str "ValueError"], by decide, by decide +kernel, fun _ => by kernel_rfl, fun _ => by kernel_rfl,
  fun a b o => ways (P := fun w => f__law_made [.str "IsStill", .tup [a, b], .int w] [o] = _) (by kernel_rfl) (by kernel_rfl) (by kernel_rfl) (by kernel_rfl),
  fun a b o => by kernel_rfl, fun a b o => by kernel_rfl, fun a b o => by kernel_rfl, by kernel_rfl, by kernel_rfl, by decide, fun st => by kernel_rfl⟩
theorem pick_NotAFlow : PickOk "NotAFlow" := ⟨[.str "place"], fun a b => [("code", .str "NotAFlow"), ("place", a)], [.str "NotAFlow"], [.str "CreepError", .str "ValueError"], by decide, by decide +kernel, fun _ => by kernel_rfl, fun _ => by kernel_rfl,
  fun a b o => ways (P := fun w => f__law_made [.str "NotAFlow", .tup [a, b], .int w] [o] = _) (by kernel_rfl) (by kernel_rfl) (by kernel_rfl) (by kernel_rfl),
  fun a b o => by kernel_rfl, fun a b o => by kernel_rfl, fun a b o => by kernel_rfl, by kernel_rfl, by kernel_rfl, by decide, fun st => by kernel_rfl⟩
theorem pick_InvalidFlat : PickOk "InvalidFlat" := ⟨[.str "value"], fun a b => [("code", .str "InvalidFlat"), ("value", a)], [.str "InvalidFlat"], [.str "CreepError", .str "ValueError"], by decide, by decide +kernel, fun _ => by kernel_rfl, fun _ => by kernel_rfl,
  fun a b o => ways (P := fun w => f__law_made [.str "InvalidFlat", .tup [a, b], .int w] [o] = _) (by kernel_rfl) (by kernel_rfl) (by kernel_rfl) (by kernel_rfl),
  fun a b o => by kernel_rfl, fun a b o => by kernel_rfl, fun a b o => by kernel_rfl, by kernel_rfl, by kernel_rfl, by decide, fun st => by kernel_rfl⟩
theorem pick_NotAClock : PickOk "NotAClock" := ⟨[], fun a b => [("code", .str "NotAClock")], [.str "NotAClock"], [.str "CreepError", .str "ValueError"], by decide, by decide +kernel, fun _ => by kernel_rfl, fun _ => by kernel_rfl,
  fun a b o => ways (P := fun w => f__law_made [.str "NotAClock", .tup [a, b], .int w] [o] = _) (by kernel_rfl) (by kernel_rfl) (by kernel_rfl) (by kernel_rfl),
  fun a b o => by kernel_rfl, fun a b o => by kernel_rfl, fun a b o => by kernel_rfl, by kernel_rfl, by kernel_rfl, by decide, fun st => by kernel_rfl⟩
theorem pick_UnlikeFlats : PickOk "UnlikeFlats" := ⟨[.str "one", .str "other"], fun a b => [("code", .str "UnlikeFlats"), ("other", b), ("one", a)], [.str "UnlikeFlats"], [.str "CreepError", .str "ValueError"], by decide, by decide +kernel, fun _ => by kernel_rfl, fun _ => by kernel_rfl,
  fun a b o => ways (P := fun w => f__law_made [.str "UnlikeFlats", .tup [a, b], .int w] [o] = _) (by kernel_rfl) (by kernel_rfl) (by kernel_rfl) (by kernel_rfl),
  fun a b o => by kernel_rfl, fun a b o => by kernel_rfl, fun a b o => by kernel_rfl, by kernel_rfl, by kernel_rfl, by decide, fun st => by kernel_rfl⟩
theorem pick_NotAlike : PickOk "NotAlike" := ⟨[.str "paper"], fun a b => [("code", .str "NotAlike"), ("paper", a)], [.str "NotAlike"], [.str "CreepError", .str "ValueError"], by decide, by decide +kernel, fun _ => by kernel_rfl, fun _ => by kernel_rfl,
  fun a b o => ways (P := fun w => f__law_made [.str "NotAlike", .tup [a, b], .int w] [o] = _) (by kernel_rfl) (by kernel_rfl) (by kernel_rfl) (by kernel_rfl),
  fun a b o => by kernel_rfl, fun a b o => by kernel_rfl, fun a b o => by kernel_rfl, by kernel_rfl, by kernel_rfl, by decide, fun st => by kernel_rfl⟩
theorem pick_InvalidLead : PickOk "InvalidLead" := ⟨[.str "value"], fun a b => [("code", .str "InvalidLead"), ("value", a)], [.str "InvalidLead"], [.str "CreepError", .str "ValueError"], by decide, by decide +kernel, fun _ => by kernel_rfl, fun _ => by kernel_rfl,
  fun a b o => ways (P := fun w => f__law_made [.str "InvalidLead", .tup [a, b], .int w] [o] = _) (by kernel_rfl) (by kernel_rfl) (by kernel_rfl) (by kernel_rfl),
  fun a b o => by kernel_rfl, fun a b o => by kernel_rfl, fun a b o => by kernel_rfl, by kernel_rfl, by kernel_rfl, by decide, fun st => by kernel_rfl⟩
theorem pick_InvalidTime : PickOk "InvalidTime" := ⟨[.str "value"], fun a b => [("code", .str "InvalidTime"), ("value", a)], [.str "InvalidTime"], [.str "CreepError", .str "ValueError"], by decide, by decide +kernel, fun _ => by kernel_rfl, fun _ => by kernel_rfl,
  fun a b o => ways (P := fun w => f__law_made [.str "InvalidTime", .tup [a, b], .int w] [o] = _) (by kernel_rfl) (by kernel_rfl) (by kernel_rfl) (by kernel_rfl),
  fun a b o => by kernel_rfl, fun a b o => by kernel_rfl, fun a b o => by kernel_rfl, by kernel_rfl, by kernel_rfl, by decide, fun st => by kernel_rfl⟩
theorem pick_InvalidTop : PickOk "InvalidTop" := ⟨[.str "at"], fun a b => [("code", .str "InvalidTop"), ("at", a)], [.str "InvalidTop"], [.str "CreepError", .str "ValueError"], by decide, by decide +kernel, fun _ => by kernel_rfl, fun _ => by kernel_rfl,
  fun a b o => ways (P := fun w => f__law_made [.str "InvalidTop", .tup [a, b], .int w] [o] = _) (by kernel_rfl) (by kernel_rfl) (by kernel_rfl) (by kernel_rfl),
  fun a b o => by kernel_rfl, fun a b o => by kernel_rfl, fun a b o => by kernel_rfl, by kernel_rfl, by kernel_rfl, by decide, fun st => by kernel_rfl⟩
theorem pick_NotInFamily : PickOk "NotInFamily" := ⟨[.str "place"], fun a b => [("code", .str "NotInFamily"), ("place", a)], [.str "NotInFamily"], [.str "CreepError", .str "ValueError"], by decide, by decide +kernel, fun _ => by kernel_rfl, fun _ => by kernel_rfl,
  fun a b o => ways (P := fun w => f__law_made [.str "NotInFamily", .tup [a, b], .int w] [o] = _) (by kernel_rfl) (by kernel_rfl) (by kernel_rfl) (by kernel_rfl),
  fun a b o => by kernel_rfl, fun a b o => by kernel_rfl, fun a b o => by kernel_rfl, by kernel_rfl, by kernel_rfl, by decide, fun st => by kernel_rfl⟩
theorem pick_NoFlips : PickOk "NoFlips" := ⟨[], fun a b => [("code", .str "NoFlips")], [.str "NoFlips"], [.str "CreepError", .str "ValueError"], by decide, by decide +kernel, fun _ => by kernel_rfl, fun _ => by kernel_rfl,
  fun a b o => ways (P := fun w => f__law_made [.str "NoFlips", .tup [a, b], .int w] [o] = _) (by kernel_rfl) (by kernel_rfl) (by kernel_rfl) (by kernel_rfl),
  fun a b o => by kernel_rfl, fun a b o => by kernel_rfl, fun a b o => by kernel_rfl, by kernel_rfl, by kernel_rfl, by decide, fun st => by kernel_rfl⟩
theorem pick_NotFolded : PickOk "NotFolded" := ⟨[.str "value"], fun a b => [("code", .str "NotFolded"), ("value", a)], [.str "NotFolded"], [.str "CreepError", .str "ValueError"], by decide, by decide +kernel, fun _ => by kernel_rfl, fun _ => by kernel_rfl,
  fun a b o => ways (P := fun w => f__law_made [.str "NotFolded", .tup [a, b], .int w] [o] = _) (by kernel_rfl) (by kernel_rfl) (by kernel_rfl) (by kernel_rfl),
  fun a b o => by kernel_rfl, fun a b o => by kernel_rfl, fun a b o => by kernel_rfl, by kernel_rfl, by kernel_rfl, by decide, fun st => by kernel_rfl⟩
theorem pick_InvalidFar : PickOk "InvalidFar" := ⟨[.str "at"], fun a b => [("code", .str "InvalidFar"), ("at", a)], [.str "InvalidFar"], [.str "CreepError", .str "ValueError"], by decide, by decide +kernel, fun _ => by kernel_rfl, fun _ => by kernel_rfl,
  fun a b o => ways (P := fun w => f__law_made [.str "InvalidFar", .tup [a, b], .int w] [o] = _) (by kernel_rfl) (by kernel_rfl) (by kernel_rfl) (by kernel_rfl),
  fun a b o => by kernel_rfl, fun a b o => by kernel_rfl, fun a b o => by kernel_rfl, by kernel_rfl, by kernel_rfl, by decide, fun st => by kernel_rfl⟩
theorem pick_NotFar : PickOk "NotFar" := ⟨[.str "place"], fun a b => [("code", .str "NotFar"), ("place", a)], [.str "NotFar"], [.str "CreepError", .str "ValueError"], by decide, by decide +kernel, fun _ => by kernel_rfl, fun _ => by kernel_rfl,
  fun a b o => ways (P := fun w => f__law_made [.str "NotFar", .tup [a, b], .int w] [o] = _) (by kernel_rfl) (by kernel_rfl) (by kernel_rfl) (by kernel_rfl),
  fun a b o => by kernel_rfl, fun a b o => by kernel_rfl, fun a b o => by kernel_rfl, by kernel_rfl, by kernel_rfl, by decide, fun st => by kernel_rfl⟩
theorem pick_NotLed : PickOk "NotLed" := ⟨[.str "first"], fun a b => [("code", .str "NotLed"), ("first", a)], [], [.str "NotLed", .str "CreepError", .str "ValueError"], by decide, by decide +kernel, fun _ => by kernel_rfl, fun _ => by kernel_rfl,
  fun a b o => ways (P := fun w => f__law_made [.str "NotLed", .tup [a, b], .int w] [o] = _) (by kernel_rfl) (by kernel_rfl) (by kernel_rfl) (by kernel_rfl),
  fun a b o => by kernel_rfl, fun a b o => by kernel_rfl, fun a b o => by kernel_rfl, by kernel_rfl, by kernel_rfl, by decide, fun st => by kernel_rfl⟩
theorem pick_NotInCrew : PickOk "NotInCrew" := ⟨[.str "paper"], fun a b => [("code", .str "NotInCrew"), ("paper", a)], [], [.str "NotInCrew", .str "CreepError", .str "ValueError"], by decide, by decide +kernel, fun _ => by kernel_rfl, fun _ => by kernel_rfl,
  fun a b o => ways (P := fun w => f__law_made [.str "NotInCrew", .tup [a, b], .int w] [o] = _) (by kernel_rfl) (by kernel_rfl) (by kernel_rfl) (by kernel_rfl),
  fun a b o => by kernel_rfl, fun a b o => by kernel_rfl, fun a b o => by kernel_rfl, by kernel_rfl, by kernel_rfl, by decide, fun st => by kernel_rfl⟩
theorem pick_InCrew : PickOk "InCrew" := ⟨[], fun a b => [("code", .str "InCrew")], [], [.str "InCrew", .str "CreepError", .str "ValueError"], by decide, by decide +kernel, fun _ => by kernel_rfl, fun _ => by kernel_rfl,
  fun a b o => ways (P := fun w => f__law_made [.str "InCrew", .tup [a, b], .int w] [o] = _) (by kernel_rfl) (by kernel_rfl) (by kernel_rfl) (by kernel_rfl),
  fun a b o => by kernel_rfl, fun a b o => by kernel_rfl, fun a b o => by kernel_rfl, by kernel_rfl, by kernel_rfl, by decide, fun st => by kernel_rfl⟩
theorem pick_InvalidName : PickOk "InvalidName" := ⟨[.str "value"], fun a b => [("code", .str "InvalidName"), ("value", a)], [], [.str "InvalidName", .str "CreepError", .str "ValueError"], by decide, by decide +kernel, fun _ => by kernel_rfl, fun _ => by kernel_rfl,
  fun a b o => ways (P := fun w => f__law_made [.str "InvalidName", .tup [a, b], .int w] [o] = _) (by kernel_rfl) (by kernel_rfl) (by kernel_rfl) (by kernel_rfl),
  fun a b o => by kernel_rfl, fun a b o => by kernel_rfl, fun a b o => by kernel_rfl, by kernel_rfl, by kernel_rfl, by decide, fun st => by kernel_rfl⟩
theorem pick_InvalidNames : PickOk "InvalidNames" := ⟨[.str "at"], fun a b => [("code", .str "InvalidNames"), ("at", a)], [], [.str "InvalidNames", .str "CreepError", .str "ValueError"], by decide, by decide +kernel, fun _ => by kernel_rfl, fun _ => by kernel_rfl,
  fun a b o => ways (P := fun w => f__law_made [.str "InvalidNames", .tup [a, b], .int w] [o] = _) (by kernel_rfl) (by kernel_rfl) (by kernel_rfl) (by kernel_rfl),
  fun a b o => by kernel_rfl, fun a b o => by kernel_rfl, fun a b o => by kernel_rfl, by kernel_rfl, by kernel_rfl, by decide, fun st => by kernel_rfl⟩
theorem pick_InvalidWord : PickOk "InvalidWord" := ⟨[.str "at"], fun a b => [("code", .str "InvalidWord"), ("at", a)], [], [.str "InvalidWord", .str "CreepError", .str "ValueError"], by decide, by decide +kernel, fun _ => by kernel_rfl, fun _ => by kernel_rfl,
  fun a b o => ways (P := fun w => f__law_made [.str "InvalidWord", .tup [a, b], .int w] [o] = _) (by kernel_rfl) (by kernel_rfl) (by kernel_rfl) (by kernel_rfl),
  fun a b o => by kernel_rfl, fun a b o => by kernel_rfl, fun a b o => by kernel_rfl, by kernel_rfl, by kernel_rfl, by decide, fun st => by kernel_rfl⟩
theorem pick_SameName : PickOk "SameName" := ⟨[.str "name"], fun a b => [("code", .str "SameName"), ("name", a)], [], [.str "SameName", .str "CreepError", .str "ValueError"], by decide, by decide +kernel, fun _ => by kernel_rfl, fun _ => by kernel_rfl,
  fun a b o => ways (P := fun w => f__law_made [.str "SameName", .tup [a, b], .int w] [o] = _) (by kernel_rfl) (by kernel_rfl) (by kernel_rfl) (by kernel_rfl),
  fun a b o => by kernel_rfl, fun a b o => by kernel_rfl, fun a b o => by kernel_rfl, by kernel_rfl, by kernel_rfl, by decide, fun st => by kernel_rfl⟩
theorem pick_NotOpen : PickOk "NotOpen" := ⟨[], fun a b => [("code", .str "NotOpen")], [], [.str "NotOpen", .str "CreepError", .str "ValueError"], by decide, by decide +kernel, fun _ => by kernel_rfl, fun _ => by kernel_rfl,
  fun a b o => ways (P := fun w => f__law_made [.str "NotOpen", .tup [a, b], .int w] [o] = _) (by kernel_rfl) (by kernel_rfl) (by kernel_rfl) (by kernel_rfl),
  fun a b o => by kernel_rfl, fun a b o => by kernel_rfl, fun a b o => by kernel_rfl, by kernel_rfl, by kernel_rfl, by decide, fun st => by kernel_rfl⟩
theorem pick_InvalidStep : PickOk "InvalidStep" := ⟨[], fun a b => [("code", .str "InvalidStep")], [], [.str "InvalidStep", .str "CreepError", .str "ValueError"], by decide, by decide +kernel, fun _ => by kernel_rfl, fun _ => by kernel_rfl,
  fun a b o => ways (P := fun w => f__law_made [.str "InvalidStep", .tup [a, b], .int w] [o] = _) (by kernel_rfl) (by kernel_rfl) (by kernel_rfl) (by kernel_rfl),
  fun a b o => by kernel_rfl, fun a b o => by kernel_rfl, fun a b o => by kernel_rfl, by kernel_rfl, by kernel_rfl, by decide, fun st => by kernel_rfl⟩
theorem pick_InvalidPaper : PickOk "InvalidPaper" := ⟨[.str "at"], fun a b => [("code", .str "InvalidPaper"), ("at", a)], [], [.str "InvalidPaper", .str "CreepError", .str "ValueError"], by decide, by decide +kernel, fun _ => by kernel_rfl, fun _ => by kernel_rfl,
  fun a b o => ways (P := fun w => f__law_made [.str "InvalidPaper", .tup [a, b], .int w] [o] = _) (by kernel_rfl) (by kernel_rfl) (by kernel_rfl) (by kernel_rfl),
  fun a b o => by kernel_rfl, fun a b o => by kernel_rfl, fun a b o => by kernel_rfl, by kernel_rfl, by kernel_rfl, by decide, fun st => by kernel_rfl⟩
theorem pick_InvalidDeed : PickOk "InvalidDeed" := ⟨[.str "at"], fun a b => [("code", .str "InvalidDeed"), ("at", a)], [], [.str "InvalidDeed", .str "CreepError", .str "ValueError"], by decide, by decide +kernel, fun _ => by kernel_rfl, fun _ => by kernel_rfl,
  fun a b o => ways (P := fun w => f__law_made [.str "InvalidDeed", .tup [a, b], .int w] [o] = _) (by kernel_rfl) (by kernel_rfl) (by kernel_rfl) (by kernel_rfl),
  fun a b o => by kernel_rfl, fun a b o => by kernel_rfl, fun a b o => by kernel_rfl, by kernel_rfl, by kernel_rfl, by decide, fun st => by kernel_rfl⟩
theorem pick_InvalidLine : PickOk "InvalidLine" := ⟨[.str "line"], fun a b => [("code", .str "InvalidLine"), ("line", a)], [], [.str "InvalidLine", .str "CreepError", .str "ValueError"], by decide, by decide +kernel, fun _ => by kernel_rfl, fun _ => by kernel_rfl,
  fun a b o => ways (P := fun w => f__law_made [.str "InvalidLine", .tup [a, b], .int w] [o] = _) (by kernel_rfl) (by kernel_rfl) (by kernel_rfl) (by kernel_rfl),
  fun a b o => by kernel_rfl, fun a b o => by kernel_rfl, fun a b o => by kernel_rfl, by kernel_rfl, by kernel_rfl, by decide, fun st => by kernel_rfl⟩
theorem pick_TooMany : PickOk "TooMany" := ⟨[.str "most"], fun a b => [("code", .str "TooMany"), ("most", a)], [], [.str "TooMany", .str "CreepError", .str "ValueError"], by decide, by decide +kernel, fun _ => by kernel_rfl, fun _ => by kernel_rfl,
  fun a b o => ways (P := fun w => f__law_made [.str "TooMany", .tup [a, b], .int w] [o] = _) (by kernel_rfl) (by kernel_rfl) (by kernel_rfl) (by kernel_rfl),
  fun a b o => by kernel_rfl, fun a b o => by kernel_rfl, fun a b o => by kernel_rfl, by kernel_rfl, by kernel_rfl, by decide, fun st => by kernel_rfl⟩
theorem pick_Solved : PickOk "Solved" := ⟨[], fun a b => [("code", .str "Solved")], [], [.str "Solved", .str "CreepError", .str "ValueError"], by decide, by decide +kernel, fun _ => by kernel_rfl, fun _ => by kernel_rfl,
  fun a b o => ways (P := fun w => f__law_made [.str "Solved", .tup [a, b], .int w] [o] = _) (by kernel_rfl) (by kernel_rfl) (by kernel_rfl) (by kernel_rfl),
  fun a b o => by kernel_rfl, fun a b o => by kernel_rfl, fun a b o => by kernel_rfl, by kernel_rfl, by kernel_rfl, by decide, fun st => by kernel_rfl⟩
theorem pick_Tied : PickOk "Tied" := ⟨[.str "ties"], fun a b => [("code", .str "Tied"), ("ties", a)], [], [.str "Tied", .str "NoAnswer", .str "ArithmeticError"], by decide, by decide +kernel, fun _ => by kernel_rfl, fun _ => by kernel_rfl,
  fun a b o => ways (P := fun w => f__law_made [.str "Tied", .tup [a, b], .int w] [o] = _) (by kernel_rfl) (by kernel_rfl) (by kernel_rfl) (by kernel_rfl),
  fun a b o => by kernel_rfl, fun a b o => by kernel_rfl, fun a b o => by kernel_rfl, by kernel_rfl, by kernel_rfl, by decide, fun st => by kernel_rfl⟩
theorem pick_NotSquare : PickOk "NotSquare" := ⟨[.str "equations", .str "unknowns"], fun a b => [("code", .str "NotSquare"), ("unknowns", b), ("equations", a)], [], [.str "NotSquare", .str "NoAnswer", .str "ArithmeticError"], by decide, by decide +kernel, fun _ => by kernel_rfl, fun _ => by kernel_rfl,
  fun a b o => ways (P := fun w => f__law_made [.str "NotSquare", .tup [a, b], .int w] [o] = _) (by kernel_rfl) (by kernel_rfl) (by kernel_rfl) (by kernel_rfl),
  fun a b o => by kernel_rfl, fun a b o => by kernel_rfl, fun a b o => by kernel_rfl, by kernel_rfl, by kernel_rfl, by decide, fun st => by kernel_rfl⟩
theorem pick_UnknownName : PickOk "UnknownName" := ⟨[.str "name"], fun a b => [("code", .str "UnknownName"), ("name", a)], [], [.str "UnknownName", .str "Missing", .str "LookupError"], by decide, by decide +kernel, fun _ => by kernel_rfl, fun _ => by kernel_rfl,
  fun a b o => ways (P := fun w => f__law_made [.str "UnknownName", .tup [a, b], .int w] [o] = _) (by kernel_rfl) (by kernel_rfl) (by kernel_rfl) (by kernel_rfl),
  fun a b o => by kernel_rfl, fun a b o => by kernel_rfl, fun a b o => by kernel_rfl, by kernel_rfl, by kernel_rfl, by decide, fun st => by kernel_rfl⟩
theorem pick_UnknownStep : PickOk "UnknownStep" := ⟨[.str "at"], fun a b => [("code", .str "UnknownStep"), ("at", a)], [], [.str "UnknownStep", .str "Missing", .str "LookupError"], by decide, by decide +kernel, fun _ => by kernel_rfl, fun _ => by kernel_rfl,
  fun a b o => ways (P := fun w => f__law_made [.str "UnknownStep", .tup [a, b], .int w] [o] = _) (by kernel_rfl) (by kernel_rfl) (by kernel_rfl) (by kernel_rfl),
  fun a b o => by kernel_rfl, fun a b o => by kernel_rfl, fun a b o => by kernel_rfl, by kernel_rfl, by kernel_rfl, by decide, fun st => by kernel_rfl⟩
theorem pick_NothingLeft : PickOk "NothingLeft" := ⟨[], fun a b => [("code", .str "NothingLeft")], [], [.str "NothingLeft", .str "LookupError", .str "IndexError"], by decide, by decide +kernel, fun _ => by kernel_rfl, fun _ => by kernel_rfl,
  fun a b o => ways (P := fun w => f__law_made [.str "NothingLeft", .tup [a, b], .int w] [o] = _) (by kernel_rfl) (by kernel_rfl) (by kernel_rfl) (by kernel_rfl),
  fun a b o => by kernel_rfl, fun a b o => by kernel_rfl, fun a b o => by kernel_rfl, by kernel_rfl, by kernel_rfl, by decide, fun st => by kernel_rfl⟩
def loop0 : List Str := ["InvalidNumber", "InvalidFraction", "InvalidOrder", "OrderTooLow", "UnlikeOrders", "InvalidPlace", "InvalidPower", "InvalidTimes", "InvalidText", "InvalidTable"]
theorem loop0_ok : ∀ p ∈ loop0, PickOk p := (List.forall_mem_cons.mpr ⟨pick_InvalidNumber, (List.forall_mem_cons.mpr ⟨pick_InvalidFraction, (List.forall_mem_cons.mpr ⟨pick_InvalidOrder, (List.forall_mem_cons.mpr ⟨pick_OrderTooLow, (List.forall_mem_cons.mpr ⟨pick_UnlikeOrders, (List.forall_mem_cons.mpr ⟨pick_InvalidPlace, (List.forall_mem_cons.mpr ⟨pick_InvalidPower, (List.forall_mem_cons.mpr ⟨pick_InvalidTimes, (List.forall_mem_cons.mpr ⟨pick_InvalidText, (List.forall_mem_cons.mpr ⟨pick_InvalidTable, (fun _ h => nomatch h)⟩)⟩)⟩)⟩)⟩)⟩)⟩)⟩)⟩)⟩)
def loop1 : List Str := ["CantTurn", "NotSlow", "NotOne", "NotUnit", "NotATable", "DividedByZero", "IsStill", "NotAFlow", "InvalidFlat", "NotAClock"]
theorem loop1_ok : ∀ p ∈ loop1, PickOk p := (List.forall_mem_cons.mpr ⟨pick_CantTurn, (List.forall_mem_cons.mpr ⟨pick_NotSlow, (List.forall_mem_cons.mpr ⟨pick_NotOne, (List.forall_mem_cons.mpr ⟨pick_NotUnit, (List.forall_mem_cons.mpr ⟨pick_NotATable, (List.forall_mem_cons.mpr ⟨pick_DividedByZero, (List.forall_mem_cons.mpr ⟨pick_IsStill, (List.forall_mem_cons.mpr ⟨pick_NotAFlow, (List.forall_mem_cons.mpr ⟨pick_InvalidFlat, (List.forall_mem_cons.mpr ⟨pick_NotAClock, (fun _ h => nomatch h)⟩)⟩)⟩)⟩)⟩)⟩)⟩)⟩)⟩)⟩)
def loop2 : List Str := ["UnlikeFlats", "NotAlike", "InvalidLead", "InvalidTime", "InvalidTop", "NotInFamily", "NoFlips", "NotFolded", "InvalidFar", "NotFar"]
theorem loop2_ok : ∀ p ∈ loop2, PickOk p := (List.forall_mem_cons.mpr ⟨pick_UnlikeFlats, (List.forall_mem_cons.mpr ⟨pick_NotAlike, (List.forall_mem_cons.mpr ⟨pick_InvalidLead, (List.forall_mem_cons.mpr ⟨pick_InvalidTime, (List.forall_mem_cons.mpr ⟨pick_InvalidTop, (List.forall_mem_cons.mpr ⟨pick_NotInFamily, (List.forall_mem_cons.mpr ⟨pick_NoFlips, (List.forall_mem_cons.mpr ⟨pick_NotFolded, (List.forall_mem_cons.mpr ⟨pick_InvalidFar, (List.forall_mem_cons.mpr ⟨pick_NotFar, (fun _ h => nomatch h)⟩)⟩)⟩)⟩)⟩)⟩)⟩)⟩)⟩)⟩)
def loop3 : List Str := ["NotLed", "NotInCrew", "InCrew", "InvalidName", "InvalidNames", "InvalidWord", "SameName", "NotOpen", "InvalidStep", "InvalidPaper"]
theorem loop3_ok : ∀ p ∈ loop3, PickOk p := (List.forall_mem_cons.mpr ⟨pick_NotLed, (List.forall_mem_cons.mpr ⟨pick_NotInCrew, (List.forall_mem_cons.mpr ⟨pick_InCrew, (List.forall_mem_cons.mpr ⟨pick_InvalidName, (List.forall_mem_cons.mpr ⟨pick_InvalidNames, (List.forall_mem_cons.mpr ⟨pick_InvalidWord, (List.forall_mem_cons.mpr ⟨pick_SameName, (List.forall_mem_cons.mpr ⟨pick_NotOpen, (List.forall_mem_cons.mpr ⟨pick_InvalidStep, (List.forall_mem_cons.mpr ⟨pick_InvalidPaper, (fun _ h => nomatch h)⟩)⟩)⟩)⟩)⟩)⟩)⟩)⟩)⟩)⟩)
def loop4 : List Str := ["InvalidDeed", "InvalidLine", "TooMany", "Solved", "Tied", "NotSquare", "UnknownName", "UnknownStep", "NothingLeft"]
theorem loop4_ok : ∀ p ∈ loop4, PickOk p := (List.forall_mem_cons.mpr ⟨pick_InvalidDeed, (List.forall_mem_cons.mpr ⟨pick_InvalidLine, (List.forall_mem_cons.mpr ⟨pick_TooMany, (List.forall_mem_cons.mpr ⟨pick_Solved, (List.forall_mem_cons.mpr ⟨pick_Tied, (List.forall_mem_cons.mpr ⟨pick_NotSquare, (List.forall_mem_cons.mpr ⟨pick_UnknownName, (List.forall_mem_cons.mpr ⟨pick_UnknownStep, (List.forall_mem_cons.mpr ⟨pick_NothingLeft, (fun _ h => nomatch h)⟩)⟩)⟩)⟩)⟩)⟩)⟩)⟩)⟩)
end K00

set_option linter.all false
set_option maxRecDepth 100000
set_option maxHeartbeats 2000000
namespace K00
open PySem PySem.Spec PyProof.Rows L2 Sim
theorem BInv.und {o : Option O} (h : BInv o) : stoBelow 1 [o] = true := by
  obtain ⟨xs, i, cur, seed, cnt, rfl, _⟩ := h.ex
  have e : ∀ xs : List Int, D.unds 1 (xs.map D.int) = true := fun xs => by
    induction xs with
    | nil => rfl
    | cons x xs ih => simp [D.unds, D.und, ih]
  simp [stoBelow, O.und, bagL, D.unds, D.und, e]
theorem Pl.und {n : Nat} {d : D} (h : Pl n d) : D.und 1 d = true := by
  have key : ∀ {ds : List D}, (∀ d ∈ ds, D.und 1 d = true) → D.unds 1 ds = true := fun {ds} => by
    induction ds with
    | nil => intro _; rfl
    | cons x xs ih => intro h; simp [D.unds, h x List.mem_cons_self, ih fun d hd => h d (List.mem_cons_of_mem _ hd)]
  induction h with
  | non => rfl
  | bl => rfl
  | int => rfl
  | str => rfl
  | lst n ds l h ih => exact key ih
  | tup n ds l h ih => exact key ih
theorem rt1 {n : Nat} {m : Sm} {args : List D} {o : Option O} {d : D} (h : m (args.map some ++ List.replicate (n - args.length) none) [o] = .rt d [o, none]) (h1 : D.und 1 d = true) (h2 : BInv o) : runDef n m args [o] = .ok d [o] := by
  unfold runDef
  rw [h]
  show finR 1 d [o, none] = _
  unfold finR
  rw [if_neg (by simp), if_pos (by
    rw [h1]
    exact h2.und)]
  rfl
theorem so {p : Str} (hp : PickOk p) {o : Option O} (h : BInv o) : ∃ o', f__law_so [.ref 0, .str p] [o] = .ok (.bl true) [o'] ∧ BInv o' := by
  obtain ⟨W, fs, K1, K2, hW, hs, ew, ed, em, et, ek1, ek2, u1, u2, lK, hne⟩ := hp.ex
  obtain ⟨a1, o1, t1, b1, p1⟩ := thing 2 o h
  obtain ⟨a2, o2, t2, b2, p2⟩ := thing 2 o1 b1
  obtain ⟨a3, o3, t3, b3, p3⟩ := thing 2 o2 b2
  obtain ⟨a4, o4, t4, b4, p4⟩ := thing 2 o3 b3
  obtain ⟨r1, o5, d1, b5, r10, r11⟩ := draw b4 (L := 4) (by decide) (by decide)
  obtain ⟨r2, o6, d2, b6, r20, r21⟩ := draw b5 (L := 4) (by decide) (by decide)
  refine ⟨o6, ?_, b6⟩
  have t1 : f__law_thing 3 [.ref 0, .int 2] [o] = .ok a1 [o1] := t1
  have t2 : f__law_thing 3 [.ref 0, .int 2] [o1] = .ok a2 [o2] := t2
  have t3 : f__law_thing 3 [.ref 0, .int 2] [o2] = .ok a3 [o3] := t3
  have t4 : f__law_thing 3 [.ref 0, .int 2] [o3] = .ok a4 [o4] := t4
  have m1 := em a1 a2 o5 r1 r10 r11
  have m2 := em a3 a4 o6 r2 r20 r21
  have hin : ∀ (x y : D), Pl 2 x → Pl 2 y → (∀ d ∈ [x, y], Pl 2 d) := fun x y hx hy d hd => by
    simp at hd
    rcases hd with rfl | rfl
    · exact hx
    · exact hy
  have c1 := copied (Pl.tup 2 [a1, a2] (by simp) (hin _ _ p1 p2)) 6 [o4] (by decide)
  have c2 := copied (Pl.tup 2 [a3, a4] (by simp) (hin _ _ p3 p4)) 6 [o4] (by decide)
  have plD : ∀ (x y : D), Pl 2 x → Pl 2 y → Pl 3 (.lst (.str p :: [x, y].take W.length)) := fun x y hx hy => .lst 2 _ (by simp; omega) fun d hd => by
    rcases List.mem_cons.mp hd with q | q
    · rw [q]; exact .str _ _ hs
    · exact hin x y hx hy d (List.mem_of_mem_take q)
  have undL : ∀ (x y : D), Pl 2 x → Pl 2 y → D.und 1 (.lst (.str p :: [x, y].take W.length)) = true := fun x y hx hy => (plD x y hx hy).und
  have tt : ∀ (x y : D), Pl 2 x → Pl 2 y → f__law_told [.ins p (fs x y), .tup W] [o6] = .ok (.lst (.str p :: [x, y].take W.length)) [o6] := fun x y hx hy => by
    unfold f__law_told chk
    refine (if_pos (by rfl)).trans ?_
    exact rt1 (et x y o6) (undL x y hx hy) b6
  have kk1 : ∀ (x y : D), f__law_kinds [.ins p (fs x y)] [o6] = .ok (.lst K1) [o6] := fun x y => by
    unfold f__law_kinds chk
    refine (if_pos (by rfl)).trans ?_
    exact rt1 (ek1 x y o6) u1 b6
  have kk2 : ∀ (x y : D), f__law_kinds_too [.ins p (fs x y)] [o6] = .ok (.lst K2) [o6] := fun x y => by
    unfold f__law_kinds_too chk
    refine (if_pos (by rfl)).trans ?_
    exact rt1 (ek2 x y o6) u2 b6
  have l1 := like (plD a1 a2 p1 p2) 6 [o6] (by decide)
  have l2 := like (plD a3 a4 p3 p4) 6 [o6] (by decide)
  have lf : f__law_like 6 [.lst [.lst ([a1, a2].take W.length), .lst ([a3, a4].take W.length)], .lst [.lst ([a1, a2].take W.length), .lst ([a3, a4].take W.length)]] [o6] = .ok (.bl true) [o6] :=
    like (n := 4) (Pl.lst 3 _ (by simp) fun d hd => by
      have q : ∀ x y, Pl 2 x → Pl 2 y → Pl 3 (.lst ([x, y].take W.length)) := fun x y hx hy => .lst 2 _ (by simp; omega) fun d hd => hin x y hx hy d (List.mem_of_mem_take hd)
      simp at hd
      rcases hd with rfl | rfl
      · exact q _ _ p1 p2
      · exact q _ _ p3 p4) 6 [o6] (by decide)
  -- the slices
  have hk : W.length = 0 ∨ W.length = 1 ∨ W.length = 2 := by omega
  have sl : ∀ (x y : D) (st : Sto), slD false (.lst [x, y]) none (some (W.length : Int)) st = .ok (.lst ([x, y].take W.length)) st := fun x y st => by
    rcases hk with e | e | e <;> rw [e] <;> rfl
  have sl1 : ∀ (l : List D) (st : Sto), l.length ≤ 2 → slD false (.lst (.str p :: l)) (some 1) none st = .ok (.lst l) st := fun l st hl => by
    rcases l with _ | ⟨x, _ | ⟨y, _ | ⟨z, l⟩⟩⟩
    · rfl
    · rfl
    · rfl
    · simp at hl
  have lw : ∀ st, lenD [.tup W] st = .ok (.int W.length) st := fun st => rfl
  have hI : intsL 0 2 = [.int 0, .int 1] := rfl
  have hbig : big 2 = true := by decide
  have lK' : K1.length + K2.length ≤ 16777216 := by simp at lK; omega
  have ltk : ∀ (x y : D), ([x, y].take W.length).length ≤ 2 := fun x y => by simp; omega
  have ct : ∀ (x y : D) st, catL false (.lst [.str p]) (.lst ([x, y].take W.length)) st = .ok (.lst (.str p :: [x, y].take W.length)) st := fun x y st => by
    rcases hk with e | e | e <;> rw [e] <;> rfl
  have ck : ∀ st, catL false (.lst K1) (.lst K2) st = .ok (.lst (K1 ++ K2)) st := fun st => by
    have e : catL false (.lst K1) (.lst K2) st = mkL false (K1 ++ K2) st := rfl
    rw [e]
    simp [mkL, line, lK']
  have lD : ∀ (x y : D) st, listD false [.tup [x, y]] st = .ok (.lst [x, y]) st := fun x y st => rfl
  have x0 : ∀ (x y : D) st, ixD (.lst [x, y]) (.int 0) st = .ok x st := fun x y st => rfl
  have x1 : ∀ (x y : D) st, ixD (.lst [x, y]) (.int 1) st = .ok y st := fun x y st => rfl
  have tt1 := tt a1 a2 p1 p2
  have tt2 := tt a3 a4 p3 p4
  have v3 : ∀ (a b c : D) st, (match valItems (.tup [a, b, c]) with | some ds => Res.ok ds st | none => .bad) = .ok [a, b, c] st := fun _ _ _ _ => rfl
  have s1 := fun st => sl1 ([a1, a2].take W.length) st (ltk _ _)
  have s2 := fun st => sl1 ([a3, a4].take W.length) st (ltk _ _)
  simp only [f__law_so, chk, runDef, m__law_so]
  simp [ew, hbig, hI, eComp, compM, compF, wipeD, mkL, line, t1, t2, t3, t4, c1, c2, lD, lw, sl, ct, d1, d2, m1, m2, Sim.forM, inTurn, x0, x1, tt1, tt2, l1, l2, kk1, kk2, ck, ed, hne, s1, s2, lf, eSl, finR_le]
end K00

set_option linter.all false
set_option maxRecDepth 100000
set_option maxHeartbeats 2000000
namespace K00
open PySem PySem.Spec PyProof.Rows L2 Sim
theorem bagLoop (x : D) : ∀ (ns : List Int) (seed : Int) (y : Option D), 0 ≤ seed → seed < 2147483629 → ∃ (seed' : Int) (y' : Option D), Sim.forM (inTurn (gN 2) (sSet 1 (eBin modI (eCB intD (aCons (eBin addD (eBin addD (eBin mulI (eVar 1) (eC (.int 48271))) (eBin modI (eCB intD (aCons (eVar 2) aNil)) (eC (.int 2147483587)))) (eC (.int 307))) aNil)) (eC (.int 2147483629))))) (ns.map D.int) [some x, some (.int seed), y] [] = .nx [some x, some (.int seed'), y'] [] ∧ 0 ≤ seed' ∧ seed' < 2147483629
  | [], seed, y, h1, h2 => ⟨seed, y, rfl, h1, h2⟩
  | n :: ns, seed, y, h1, h2 => by
    have m := fmod_lt (a := seed * 48271 + n.fmod 2147483587 + 307) (b := 2147483629) (by decide)
    obtain ⟨s', y', e, a, b⟩ := bagLoop x ns _ (some (.int n)) m.1 m.2
    refine ⟨s', y', ?_, a, b⟩
    have c1 : ∀ i, mulOk i 48271 = true := fun i => mulC i (by decide)
    rw [← e]
    simp [Sim.forM, inTurn, c1, mulI, modI, intD_int]
theorem bag (ns : List Int) (hn : ns.length ≤ 63) (x : D) (hx : x = .scr (ns.map D.int) ∨ x = .lst (ns.map D.int)) : ∃ o, f__law_bag [x] [] = .ok (.ref 0) [o] ∧ BInv o := by
  obtain ⟨s', y', e, a, b⟩ := bagLoop x ns 13960 none (by decide) (by decide)
  have hc : slD false x none (some 63) [] = .ok (.lst (ns.map D.int)) [] := by
    have q : Sim.cutD (ns.map D.int) none (some 63) = ns.map D.int := by
      unfold Sim.cutD
      have l : (ns.map D.int).length = ns.length := List.length_map ..
      have e1 : HT.sIx (ns.map D.int).length 0 none = 0 := rfl
      have e2 : ns.length ≤ HT.sIx (ns.map D.int).length (ns.map D.int).length (some 63) := by
        rw [l]
        have q := HT.sIx_nat ns.length ns.length 63
        have q : HT.sIx ns.length ns.length (some 63) = min 63 ns.length := q
        rw [q]; omega
      rw [e1, List.drop_zero, List.take_of_length_le]
      omega
    have q2 : slD false x none (some 63) [] = mkL false (Sim.cutD (ns.map D.int) none (some 63)) [] := by rcases hx with rfl | rfl <;> rfl
    rw [q2, q]
    have : ns.length ≤ 16777216 := by omega
    simp [mkL, line, this]
  have hl : ∀ st, listD false [.lst (ns.map D.int)] st = .ok (.lst (ns.map D.int)) st := fun st => by
    have q : listD false [.lst (ns.map D.int)] st = mkL false (ns.map D.int) st := rfl
    have : ns.length ≤ 16777216 := by omega
    rw [q]
    simp [mkL, line, this]
  refine ⟨some (.lst (bagL ns 0 0 s' 0)), ?_, ns, 0, 0, s', 0, rfl, by decide, by decide, a, b, hn⟩
  simp only [f__law_bag, chk, runDef, m__law_bag]
  simp [eSl, hc, e, hl, mkL, line, bagL]
  rfl
end K00

set_option linter.all false
set_option maxRecDepth 100000
set_option maxHeartbeats 2000000
namespace K00
open PySem PySem.Spec PyProof.Rows L2 Sim
theorem lawLoop (x : D) : ∀ (l : List Str), (∀ p ∈ l, PickOk p) → ∀ (y : Option D) (o : Option O), BInv o → ∃ (y' : Option D) (o' : Option O), Sim.forM (inTurn (gN 2) (sIf (Sim.tNot (tOf (eCall f__law_so (aCons (eVar 1) (aCons (eVar 2) aNil)) []))) (sRet (eC (.bl false))) sNil)) (l.map D.str) [some x, some (.ref 0), y] [o] = .nx [some x, some (.ref 0), y'] [o'] ∧ BInv o'
  | [], _, y, o, h => ⟨y, o, rfl, h⟩
  | p :: l, hp, y, o, h => by
    obtain ⟨o1, e1, h1⟩ := so (hp p List.mem_cons_self) h
    obtain ⟨y', o2, e2, h2⟩ := lawLoop x l (fun q hq => hp q (List.mem_cons_of_mem _ hq)) (some (.str p)) o1 h1
    refine ⟨y', o2, ?_, h2⟩
    rw [← e2]
    simp [Sim.forM, inTurn, e1]
theorem law_true (ns : List Int) (hn : ns.length ≤ 63) (x : D) (hx : x = .scr (ns.map D.int) ∨ x = .lst (ns.map D.int)) : ∃ st, f_law [x] [] = .ok (.bl true) st := by
  obtain ⟨o, e, h⟩ := bag ns hn x hx
  obtain ⟨y0, o0, e0, h0⟩ := lawLoop x loop0 loop0_ok none o h
  obtain ⟨y1, o1, e1, h1⟩ := lawLoop x loop1 loop1_ok y0 o0 h0
  obtain ⟨y2, o2, e2, h2⟩ := lawLoop x loop2 loop2_ok y1 o1 h1
  obtain ⟨y3, o3, e3, h3⟩ := lawLoop x loop3 loop3_ok y2 o2 h2
  obtain ⟨y4, o4, e4, h4⟩ := lawLoop x loop4 loop4_ok y3 o3 h3
  simp only [loop0, loop1, loop2, loop3, loop4, List.map_cons, List.map_nil] at e0 e1 e2 e3 e4
  have fin : ∃ st, finR 0 (.bl true) [o4] = .ok (.bl true) st := by
    unfold finR
    rw [if_neg (by simp)]
    split
    · exact ⟨_, rfl⟩
    · exact ⟨_, rfl⟩
  obtain ⟨st, ef⟩ := fin
  refine ⟨st, ?_⟩
  simp only [f_law, chk, runDef, m_law]
  have vt : ∀ ds : List D, valItems (.tup ds) = some ds := fun _ => rfl
  simp [e, e0, e1, e2, e3, e4, ef, line, vt]
end K00

set_option linter.all false
set_option maxRecDepth 100000
set_option maxHeartbeats 4000000
namespace K00
open PySem PySem.Spec PyProof.Rows L2 Sim
theorem fk_law {P : Program} {w : World} {K : Frag} {mg : Str → Option Value} {base : Heap} {fd : FuncData} (ev : Ev K mg) (F : FunD K "law" "law" (defArgs st_law) (defBody st_law) (defScope st_law) [] [] (He.ga K "law") fd) : FnOk P w K mg base (CXp P w) 9 (He.ga K "law") fd ["_law_script"] (spM K 1 f_law) := by
  have h : spM K 1 f_law = spM K 1 (runDef 3 m_law) := runDef_chk
  rw [h]
  refine fn_sim (N := N_law) (ps := ["_law_script"]) F sc_law fun cdv A outer s H E hr => ?_
  exact (sss_cons (ss_set sc_law.nd (i := 1) rfl (by first | exact Or.inl rfl | exact Or.inr rfl) (se_fn (ok__law_bag ev) hr (by omega) cx_takes (sa_cons (se_var (pv 0)) sa_nil))) (sss_cons (ss_for cx_own rfl (si_val (se_tup (sa_cons se_str (sa_cons se_str (sa_cons se_str (sa_cons se_str (sa_cons se_str (sa_cons se_str (sa_cons se_str (sa_cons se_str (sa_cons se_str (sa_cons se_str sa_nil)))))))))))) (sg_name (i := 2) sc_law.nd rfl (by first | exact Or.inl rfl | exact Or.inr rfl)) (sss_one (ss_if (st_not (st_val (se_fn (ok__law_so ev) hr (by omega) cx_takes (sa_cons (se_var (pv 1)) (sa_cons (se_var (pv 2)) sa_nil))))) (sss_one (ss_ret se_bl)) sss_nil))) (sss_cons (ss_for cx_own rfl (si_val (se_tup (sa_cons se_str (sa_cons se_str (sa_cons se_str (sa_cons se_str (sa_cons se_str (sa_cons se_str (sa_cons se_str (sa_cons se_str (sa_cons se_str (sa_cons se_str sa_nil)))))))))))) (sg_name (i := 2) sc_law.nd rfl (by first | exact Or.inl rfl | exact Or.inr rfl)) (sss_one (ss_if (st_not (st_val (se_fn (ok__law_so ev) hr (by omega) cx_takes (sa_cons (se_var (pv 1)) (sa_cons (se_var (pv 2)) sa_nil))))) (sss_one (ss_ret se_bl)) sss_nil))) (sss_cons (ss_for cx_own rfl (si_val (se_tup (sa_cons se_str (sa_cons se_str (sa_cons se_str (sa_cons se_str (sa_cons se_str (sa_cons se_str (sa_cons se_str (sa_cons se_str (sa_cons se_str (sa_cons se_str sa_nil)))))))))))) (sg_name (i := 2) sc_law.nd rfl (by first | exact Or.inl rfl | exact Or.inr rfl)) (sss_one (ss_if (st_not (st_val (se_fn (ok__law_so ev) hr (by omega) cx_takes (sa_cons (se_var (pv 1)) (sa_cons (se_var (pv 2)) sa_nil))))) (sss_one (ss_ret se_bl)) sss_nil))) (sss_cons (ss_for cx_own rfl (si_val (se_tup (sa_cons se_str (sa_cons se_str (sa_cons se_str (sa_cons se_str (sa_cons se_str (sa_cons se_str (sa_cons se_str (sa_cons se_str (sa_cons se_str (sa_cons se_str sa_nil)))))))))))) (sg_name (i := 2) sc_law.nd rfl (by first | exact Or.inl rfl | exact Or.inr rfl)) (sss_one (ss_if (st_not (st_val (se_fn (ok__law_so ev) hr (by omega) cx_takes (sa_cons (se_var (pv 1)) (sa_cons (se_var (pv 2)) sa_nil))))) (sss_one (ss_ret se_bl)) sss_nil))) (sss_cons (ss_for cx_own rfl (si_val (se_tup (sa_cons se_str (sa_cons se_str (sa_cons se_str (sa_cons se_str (sa_cons se_str (sa_cons se_str (sa_cons se_str (sa_cons se_str (sa_cons se_str sa_nil))))))))))) (sg_name (i := 2) sc_law.nd rfl (by first | exact Or.inl rfl | exact Or.inr rfl)) (sss_one (ss_if (st_not (st_val (se_fn (ok__law_so ev) hr (by omega) cx_takes (sa_cons (se_var (pv 1)) (sa_cons (se_var (pv 2)) sa_nil))))) (sss_one (ss_ret se_bl)) sss_nil))) (sss_one (ss_ret se_bl))))))))
theorem reps_ints {K : Frag} {w : Wd} : ∀ ns : List Int, Reps K w (ns.map V.int) (ns.map D.int)
  | [] => .nil
  | n :: ns => .cons (.int n) (reps_ints ns)
theorem script_rep {K : Frag} {H : Hp} {a : Addr} {ns : List Int} (hS : SqL K H a (ns.map V.int)) : ∃ (w : Wd) (x : D), w.H = H ∧ w.st = [] ∧ Ok K w ∧ Rep K w (.ref a) x ∧ (x = .scr (ns.map D.int) ∨ x = .lst (ns.map D.int)) := by
  have ok : Ok K ⟨[], [], H, []⟩ := ⟨rfl, List.nodup_nil, fun _ h => (nomatch h), fun _ h => (nomatch h), fun n a o h => by simp at h⟩
  have nl : ∀ b, ¬ Live ⟨[], [], H, []⟩ b := fun b ⟨n, o, h, _⟩ => by simp at h
  rcases hS with h | h
  · rcases h with h | ⟨o, h⟩
    · exact ⟨_, _, rfl, rfl, ok, .lst h (nl a) (by simp) (reps_ints ns), .inr rfl⟩
    · exact ⟨_, _, rfl, rfl, ok, .scr h (nl a) (by simp) (reps_ints ns), .inl rfl⟩
  · obtain ⟨o, its, n, h1, h2, h3⟩ := h
    exact ⟨_, _, rfl, rfl, ok, .kscr (fun H' => .inr ⟨o, its, n, h1, h2, h3⟩) ⟨o, h1, h2⟩ (reps_ints ns), .inl rfl⟩
theorem promise {K : Frag} {H : Hp} {a : Addr} {ns : List Int} (hn : ns.length ≤ 63) (hS : SqL K H a (ns.map V.int)) : spM K 1 f_law [.ref a] H (fun v _ => v = .bl true) (fun _ _ _ => False) := by
  obtain ⟨w, x, rfl, h2, ok, r, hx⟩ := script_rep hS
  obtain ⟨st, e⟩ := law_true ns hn x hx
  refine ⟨w, [x], rfl, ok, .cons r .nil, rfl, ?_⟩
  rw [h2, e]
  intro b mu H s o r
  cases r
  rfl
theorem facts {P : Program} {w : World} {K : Frag} {h : Heap} {mg : Str → Option Value} {f : Addr} (X : K.In h) (G : h.Ns mainGlobals mg) (hfa : mg ("law" : Str) = some (.ref f)) (c : SaysS fa fn xs K) :
    ∃ fd : FuncData, (∀ (s : Shared) (v : Value), BindsTo s fd ⟨[v], []⟩ [("_law_script", v)]) ∧ ∀ base : Heap, K.In base → base.Ns mainGlobals mg → FnOk P w K mg base (CXp P w) 9 f fd ["_law_script"] (spM K 1 f_law) := by
  have ev := ev_of X G c
  obtain ⟨fd, F⟩ := ev.says.def_ D_law rfl
  have e := hfa.symm.trans (ev.glo "law")
  cases e
  have b := FunD.bindsA (ps := ["_law_script"]) F fun _ _ _ _ _ _ us hl => match us, hl with | [_], _ => rfl
  exact ⟨fd, fun s v => b s [v] rfl, fun base _ _ => fk_law ev F⟩
end K00
open PySem PySem.W PySem.Calls PyProof.Rows
theorem PySem.Challenge.cw_creepclocks_k00_errors_by_themselves_holds : PySem.Challenge.rw_creepclocks_k00_errors_by_themselves.Holds := by
  w_on; o_law
  refine HandSHeadRun.head_any (r := OpenLaw.row PySem.Challenge.rw_creepclocks_k00_errors_by_themselves) (q := view (OpenLaw.row PySem.Challenge.rw_creepclocks_k00_errors_by_themselves).prog [71]) (H := K00.hk) (ob := K00.ob) (M := 16000) (loose := K00.hnames) (d := HandSHeadRun.topDef (OpenLaw.row PySem.Challenge.rw_creepclocks_k00_errors_by_themselves).prog 71) (kwd := []) K00.ob_eq
    (by kernel_rfl) (fun s => by kernel_rfl) K00.run (by kernel_rfl) (by kernel_rfl) (by kernel_rfl) (by rfl) (by first | assumption | decide +kernel) (by decide +kernel) ⟨rfl, rfl, rfl, rfl, rfl, by decide +kernel⟩ ?hw ?hc
  case hw => w_witness2
  case hc =>
    refine LamX.walk_ofTsE (l := PySem.Challenge.rw_creepclocks_k00_errors_by_themselves) (n := 63) (k := 9) (x := "_law_script") (CX := fun w => L2.CX PySem.Challenge.rw_creepclocks_k00_errors_by_themselves.prog w) rfl (by decide) (by kernel_rfl) ⟨rfl, by decide, by decide⟩ ?F ?X
    · intro w mg fa h Y G hmg0
      obtain ⟨K, KX, c⟩ := Y
      have hmg : mg ("law" : PySem.Str) = some (.ref fa) := by
        have e : (HandSHeadRun.topDef (OpenLaw.row PySem.Challenge.rw_creepclocks_k00_errors_by_themselves).prog 71).name = ("law" : PySem.Str) := by kernel_rfl
        rw [← e]
        exact hmg0
      obtain ⟨fd, hb, hF⟩ := K00.facts (P := (PySem.Challenge.rw_creepclocks_k00_errors_by_themselves).prog) (w := w) KX G hmg c
      exact ⟨K, KX, fd, [], Sim.spM K 1 K00.f_law, fun _ h => (nomatch h), fun _ h => (nomatch h), fun _ h => (nomatch h), hb, fun H a ns hl _ _ hS => K00.promise hl hS, fun base hK hG _ => hF base hK hG⟩
    · intro w H s e s' h
      obtain ⟨_, _, _, _, _, _, _, _, _, _, _, _, f⟩ := h
      exact f
